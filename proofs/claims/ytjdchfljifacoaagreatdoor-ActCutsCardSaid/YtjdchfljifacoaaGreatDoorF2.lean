import Derived.Test.YtjdchfljifacoaaGreatDoorK2
import Derived.Shelf.Spec.SlicesInsert
import Derived.Lib.AppendZerosOnto
set_option linter.all false
set_option maxRecDepth 1000000
set_option maxHeartbeats 8000000
namespace Go.Proofs.YtjdchfljifacoaaGreatDoor.Am
section
open Go Go.RowKit Go.Lib
theorem Ld{P:Program}(w:World)(dT sT ty elem:TypeId){i:TypeInfo}(b o dLen dCap:Nat)(a:Addr)(sLen sCap n:Nat)(cs:List Value)(hu:P.underlying dT=some (.slice elem))(hi:P.info? elem=some i)(hn:Nat.min sLen dLen=n)(hl:cs.length=n*i.size)(hsrc:∀j v,cs[j]? =some v->w.cell? (a.add j)=some v)(hc:∀j,j<cs.length->(w.cell? ⟨b,o+j,none⟩).isSome=true)(hf:∀j,j<cs.length->w.frozen? ⟨b,o+j,none⟩=false)(h1:∀v∈cs,v.oneCell'=true):(Builtin.copy_ #[dT,sT] ty #[.slice (some ⟨b,o,none⟩) dLen dCap,.slice (some a) sLen sCap]).run P w=.ok (goInt n) (w.setCells b o cs):=by
 have hld:=run_loadCells_list (P:=P) w a cs hsrc;have hst:=run_storeCells_cells (P:=P) b o cs 0 w (by simpa using hc) (by simpa using hf) h1
 simp_all[Builtin.copy_,Builtin.lenOf,Builtin.firstCells,sizeOf,typeInfo,run_underlying]
theorem JK{P:Program}(w:World)(tS tR e:TypeId)(ht:P.underlying tS=some (.slice e))(size:Nat)(hz:∀w,(Go.sizeOf e).run P w=.ok size w)(a b:Addr)(la ca lb cb:Nat)(hne:a.block≠b.block)(tA tB:TypeId)(kA kB:Nat)(hsa:w.shape? a.block=some (tA,kA))(hsb:w.shape? b.block=some (tB,kB))(hkA:kA≠0)(hfb:w.frozen? b=false)(hfe:w.frozen? {block:=b.block,off:=kB}=false):(Extern.SlicesOverlaps.overlaps #[tS,tS] #[tR] #[.slice (some a) la ca,.slice (some b) lb cb]).run P w=.ok (.bool false) w:=by
 have hnb:=by simpa using hne
 have hnb':=by simpa using hne
 delta Extern.SlicesOverlaps.overlaps
 rw[show∀h1 h2,Extern.SlicesOverlaps.overlaps.match_4 (λ_=>Sem Value) #[.slice (some a) la ca,.slice (some b) lb cb] h1 h2=h1 (some a) la ca (some b) lb cb from λ_ _=>rfl];by_cases h0:la=0\/lb=0\/size=0
 ·simp[run_underlying ht,hz,h0]
 ·cases kA with
  |zero=>exact absurd rfl hkA
  |succ kA=>
   cases hfa:w.frozen? a<;>cases hfz:w.frozen? {block:=a.block,off:=kA+1}<;>
   simp[run_underlying ht,hz,hnb,noView,viewAt,mayBeOne,stringish,Sem.run,hsa,hsb,hfb,hfe]
theorem Lies.setIn{w:World}{b o:Nat}{vs:List Value}(h:∀j,j<vs.length->(w.cell? ⟨b,o+j,none⟩).isSome=true):Lies (w.setCells b o vs) b o vs:=λj v hj=>by have hlt:=(y5.1 hj).1;rw[World.cell?_setCells_in b vs o w h j hlt];grind
theorem Lies.setOut{w:World}{b o o':Nat}{xs vs:List Value}(h:Lies w b o xs)(hd:o+xs.length<=o'\/o'+vs.length<=o):Lies (w.setCells b o' vs) b o xs:=λj v hj=>by rw[World.cell?_setCells_out b vs o' w _ (by grind)];exact h j v hj
theorem KeptB.alloc(b:Nat)(w:World)(ob:Obj):KeptB b w (w.alloc ob):=⟨by grind[World.alloc],by rw[World.alloc,Array.size_push];exact Nat.le_succ _,⟨rfl,rfl⟩⟩
theorem P9(w:World)(ob:Obj):(w.alloc ob).heap.size=w.heap.size+1:=by rw[World.alloc,Array.size_push]
theorem Q1(w:World)(N:Nat)(hN:N=w.heap.size)(cs:List Value)(T:TypeId):Lies (w.alloc (.cells cs.toArray T)) N 0 cs:=λj v hj=>by rw[World.cell?_alloc_at _ _ N (0+j) hN,A08,List.getElem?_toArray];exact hj
def zM:List Value:=[.int .i64 0,.int .i64 0,.int .i64 0,.int .i64 0,.bool false]
inductive InsK:Nat->Nat->Nat->Nat->Nat->Nat->List Value->Prop
 |u:InsK 178 27 37 193 6 64 zU
 |m:InsK 133 30 40 157 5 40 zM
section
variable{F S α O z B:Nat}{τ:List Value}(K:InsK F S α O z B τ)
include K
theorem om{p:Prop}(h:InsK F S α O z B τ->p:=by intro k;cases k<;>omega):p:=h K
theorem Ow:Tryz.prog.underlying S=some (.slice α):=by
 cases K
 ·exact Tryz.underlying27
 ·exact Tryz.underlying30
theorem Q2:∃j,Tryz.prog.info? α=some j/\j.zero=some (.agg τ.toArray)/\j.size=z/\j.bytes=B:=by
 have h:(Tryz.prog.info? α).map (λi=>(i.zero,i.size,i.bytes))=some (some (.agg τ.toArray),z,B):=by cases K<;>kernel_rfl
 obtain⟨i,hi,h2⟩:=Option.map_eq_some_iff.1 h;simp only[A57]at h2;exact⟨i,hi,h2⟩
theorem iov{w:World}{vb voff b x m vc lb cb:Nat}(hvb:vb≠b)(tA tB:TypeId)(kA kB:Nat)(hsa:w.shape? vb=some (tA,kA))(hsb:w.shape? b=some (tB,kB))(hkA:kA≠0)(hfb:∀j,w.frozen? ⟨b,j,none⟩=false):(callFunc O #[.slice (some ⟨vb,voff,none⟩) m vc,.slice (some ⟨b,x,none⟩) lb cb]).run Tryz.prog w=.ok (.value (.bool false)) w:=by
 cases K
 ·rw[run_callFunc_extern Tryz.func193 (by kernel_rfl) (by kernel_rfl) (by kernel_rfl) (e:=Extern.SlicesOverlaps.overlaps #[27,27] #[4]) (by kernel_rfl),JK w _ _ _ Tryz.underlying27 6 Tryz.sizeOf37 _ _ m vc lb cb hvb tA tB kA kB hsa hsb hkA (hfb _) (hfb _)];rfl
 ·rw[run_callFunc_extern Tryz.func157 (by kernel_rfl) (by kernel_rfl) (by kernel_rfl) (e:=Extern.SlicesOverlaps.overlaps #[30,30] #[4]) (by kernel_rfl),JK w _ _ _ Tryz.underlying30 5 Tryz.sizeOf40 _ _ m vc lb cb hvb tA tB kA kB hsa hsb hkA (hfb _) (hfb _)];rfl
theorem VC(b off n c i vb voff m vc:Nat)(cs vs:List Value)(w:World)(hi:i<n)(hm:0<m)(hroom:n+m<=c)(hc63:n+m<=9223372036854775807)(hvb:vb≠b)(hcl:cs.length=n*z)(hvl:vs.length=m*z)(hcs:∀j v,cs[j]? =some v->w.cell? ⟨b,off+j,none⟩=some v)(hsp:∀j,j<(n+m)*z->(w.cell? ⟨b,off+j,none⟩).isSome=true)(hfz:∀j,j<(n+m)*z->w.frozen? ⟨b,off+j,none⟩=false)(hvs:∀j v,vs[j]? =some v->w.cell? ⟨vb,voff+j,none⟩=some v)(h1c:∀v∈cs,v.oneCell'=true)(h1v:∀v∈vs,v.oneCell'=true)(tA tB:TypeId)(kA kB:Nat)(hsa:w.shape? vb=some (tA,kA))(hsb:w.shape? b=some (tB,kB))(hkA:kA≠0)(hfb:∀j,w.frozen? ⟨b,j,none⟩=false):Calls Tryz.prog F #[.slice (some ⟨b,off,none⟩) n c,.int .i64 i,.slice (some ⟨vb,voff,none⟩) m vc] w λe w'=>e=.returned (.slice (some ⟨b,off,none⟩) (n+m) c)/\w'=(w.drew.setCells b (off+(i+m)*z) (cs.drop (i*z))).setCells b (off+i*z) vs:=by
 obtain⟨i0,hi0,-,hzs,-⟩:=Q2 K;have hz1:¬((m:Int)=0):=om K;have hz2:¬((i:Int)=(n:Int)):=om K;have hov:∀lb cb,(callFunc O #[.slice (some ⟨vb,voff,none⟩) m vc,.slice (some ⟨b,off+(i+m)*z,none⟩) lb cb]).run Tryz.prog w=.ok (.value (.bool false)) w:=λlb cb=>iov K hvb tA tB kA kB hsa hsb hkA hfb
 have hdl:(cs.drop (i*z)).length=(n-i)*i0.size:=by rw[A11,hcl,hzs,Nat.sub_mul]
 have hdl6:(cs.drop (i*z)).length=(n-i)*z:=by rw[hdl,hzs]
 have mixed:Tryz.prog.follows .mixedOrders=true:=by kernel_rfl
 have hw1:IntKind.i64.wrap ((i:Int)+(m:Int))=(i:Int)+(m:Int):=by rw[IntKind.wrap_i64];exact om K
 have hb1:(0:Int)<=(i:Int)+(m:Int):=om K;have hin:i<=n:=om K;have htn:((i:Int)+(m:Int)).toNat=i+m:=om K;have hb2:¬(c=i+m):=om K;have hb3:(i:Int)<=(n:Int)+(m:Int):=om K;have hb4:¬(c=i):=om K;have hcp1:∀ty dc sc,(Builtin.copy_ #[S,S] ty #[.slice (some ⟨b,off+(i+m)*z,none⟩) (n+m-(i+m)) dc,.slice (some ⟨b,off+i*z,none⟩) (n+m-i) sc]).run Tryz.prog w.drew=.ok (goInt ((n-i:Nat):Int)) (w.drew.setCells b (off+(i+m)*z) (cs.drop (i*z))):=λty dc sc=>
  Ld w.drew _ _ ty α b (off+(i+m)*z) (n+m-(i+m)) dc ⟨b,off+i*z,none⟩ (n+m-i) sc (n-i) (cs.drop (i*z)) (Ow K) hi0 (by simp only[Nat.min_def];split<;>exact om K) hdl
   (λj v hj=>by rw[Addr.add_lit,A15];exact hcs (i*z+j) v (by rwa [A48]at hj))
   (λj hj=>by rw[hdl6]at hj;rw[A15];exact hsp _ (om K)) (λj hj=>by rw[hdl6]at hj;rw[A15];exact hfz _ (om K)) (λv hv=>h1c v (List.mem_of_mem_drop hv))
 obtain⟨W1,hW1⟩:∃W1,W1=w.drew.setCells b (off+(i+m)*z) (cs.drop (i*z)):=⟨_,rfl⟩
 have hsp1:∀k,k<(n+m)*z->(W1.cell? ⟨b,off+k,none⟩).isSome=true:=λk hk=>by rw[hW1];exact World.isSome_setCells b _ _ w.drew _ (hsp k hk)
 have hcp2:∀(ρ:World),(∀x,ρ.cell? x=W1.cell? x)->(∀x,ρ.frozen? x=W1.frozen? x)->∀ty dc,(Builtin.copy_ #[S,S] ty #[.slice (some ⟨b,off+i*z,none⟩) (n+m-i) dc,.slice (some ⟨vb,voff,none⟩) m vc]).run Tryz.prog ρ=.ok (goInt m) (ρ.setCells b (off+i*z) vs):=λρ hWc hWf ty dc=>
  Ld ρ _ _ ty α b (off+i*z) (n+m-i) dc ⟨vb,voff,none⟩ m vc m vs (Ow K) hi0 (by simp only[Nat.min_def];split<;>exact om K) (by rw[hvl,hzs])
   (λj v hj=>by rw[Addr.add_lit,hWc,hW1,World.cell?_setCells_out b _ _ _ _ (λh _=>absurd h hvb)];exact hvs j v hj)
   (λj hj=>by rw[hvl]at hj;rw[hWc,A15];exact hsp1 _ (om K)) (λj hj=>by rw[hvl]at hj;rw[hWf,hW1,World.frozen?_setCells,A15];exact hfz _ (om K)) h1v
 rw[<-hW1]at hcp1;clear hsp1 hcs hsp hfz hvs h1c h1v hdl hdl6 hcl hvl;cases K
 case' m=>go_enter Tryz.func133,Tryz.ntmps133
 case' u=>go_enter Tryz.func178,Tryz.ntmps178
 all_goals
  go_wp2_with (simp only[hov])
  go_region_law_o (refine step_copy_runI rfl _ _ _ _ rfl _ _ (by simp[Act.eval,Act.put]) (by simp[Act.eval,Act.put]) (hcp1 _ _ _) ?_)
  go_wp2_with (at_builtin;refine wpList_copy_runI _ rfl _ _ _ _ rfl _ _ rfl rfl (hcp2 _ (λ_=>rfl) (λ_=>rfl) _ _) ?_)
  go_ret
  first|exact⟨rfl,rfl⟩|exact⟨rfl,by rw[hW1]⟩
theorem SW(b off n c vb voff m vc:Nat)(vs:List Value)(w:World)(hm:0<m)(hroom:n+m<=c)(hc63:n+m<=9223372036854775807)(hvl:vs.length=m*z)(hsp:∀j,j<m*z->(w.cell? ⟨b,off+n*z+j,none⟩).isSome=true)(hfz:∀j,j<m*z->w.frozen? ⟨b,off+n*z+j,none⟩=false)(hvs:∀j v,vs[j]? =some v->w.cell? ⟨vb,voff+j,none⟩=some v)(h1v:∀v∈vs,v.oneCell'=true):Calls Tryz.prog F #[.slice (some ⟨b,off,none⟩) n c,.int .i64 n,.slice (some ⟨vb,voff,none⟩) m vc] w λe w'=>e=.returned (.slice (some ⟨b,off,none⟩) (n+m) c)/\w'=w.setCells b (off+n*z) vs:=by
 obtain⟨i0,hi0,-,hzs,-⟩:=Q2 K;have hz1:¬((m:Int)=0):=om K;have mixed:Tryz.prog.follows .mixedOrders=true:=by kernel_rfl
 have hrun:∀ty,(Builtin.append_ #[S,S] ty #[.slice (some ⟨b,off,none⟩) n c,.slice (some ⟨vb,voff,none⟩) m vc]).run Tryz.prog w=.ok (.slice (some ⟨b,off,none⟩) (n+m) c) (w.setCells b (off+n*z) vs):=λty=>by have:=run_append_room_cells (P:=Tryz.prog) w S ty α i0 (Ow K) hi0 b off n c ⟨vb,voff,none⟩ m vc vs (by rw[hvl,hzs]) (λj u hj=>by rw[Addr.add_lit];exact hvs j u hj) h1v hroom (λj hj=>by rw[hzs];exact hsp j (om K)) (λj hj=>by rw[hzs];exact hfz j (om K));rw[hzs]at this;exact this
 clear hsp hfz hvs h1v hvl;cases K
 case' m=>go_enter Tryz.func133,Tryz.ntmps133
 case' u=>go_enter Tryz.func178,Tryz.ntmps178
 all_goals
  go_wp2_with (at_builtin;refine Lib.wpList_append_run _ rfl _ _ _ _ rfl _ _ rfl rfl _ _ (hrun _) ?_)
  go_ret
  exact⟨rfl,rfl⟩
theorem SX(b off n c vb voff m vc:Nat)(cs vs:List Value)(w:World)(hm:0<m)(hnc:n<=c)(hroom:c<n+m)(hbig:(n+m)*B<=140737488355328)(hcl:cs.length=n*z)(hvl:vs.length=m*z)(hcs:Lies w b off cs)(hvs:Lies w vb voff vs):Calls Tryz.prog F #[.slice (some ⟨b,off,none⟩) n c,.int .i64 n,.slice (some ⟨vb,voff,none⟩) m vc] w λe w'=>∃g us,e=.returned (.slice (some ⟨w.heap.size,0,none⟩) (n+m) g)/\n+m<=g/\w'=w.drew.alloc (.cells (cs++vs++us).toArray α):=by
 obtain⟨i0,hi0,hz0,hzs,hzb⟩:=Q2 K;have hz1:¬((m:Int)=0):=om K;have mixed:Tryz.prog.follows .mixedOrders=true:=by kernel_rfl
 obtain⟨g,hg⟩:∃g,g=grownCap w (n+m) c α:=⟨_,rfl⟩
 obtain⟨W1,hW1⟩:∃W1,W1=w.drew.alloc (.cells (cs.toArray++vs.toArray++Builtin.zeroCells (Value.agg τ.toArray).cells (g-(n+m))) α):=⟨_,rfl⟩
 have hrun:∀ty,(Builtin.append_ #[S,S] ty #[.slice (some ⟨b,off,none⟩) n c,.slice (some ⟨vb,voff,none⟩) m vc]).run Tryz.prog w=.ok (.slice (some ⟨w.heap.size,0,none⟩) (n+m) g) W1:=λty=>by have:=IN (P:=Tryz.prog) (w:=w) S ty α i0 _ (Ow K) hi0 hz0 (.inr ⟨b,off,rfl,hcs⟩) (.inr ⟨vb,voff,rfl,hvs⟩) n m c vc (by rw[hcl,hzs]) (by rw[hvl,hzs]) hroom (by rw[hzb];exact hbig) (by rw[hzb];cases K<;>decide);rw[this,hW1,hg]
 have hge:n+m<=g:=by rw[hg];exact grownCap_ge w _ _ _
 have hW:RowKit.Hid (W1=w.drew.alloc (.cells (cs.toArray++vs.toArray++Builtin.zeroCells (Value.agg τ.toArray).cells (g-(n+m))) α)):=hW1;clear hcs hvs hvl hcl hW1 hg;refine Calls.mono (R:=λe w'=>e=.returned (.slice (some ⟨w.heap.size,0,none⟩) (n+m) g)/\w'=W1) ?_ ?_
 ·cases K
  case' m=>go_enter Tryz.func133,Tryz.ntmps133
  case' u=>go_enter Tryz.func178,Tryz.ntmps178
  all_goals
   go_wp2_with (at_builtin;refine Lib.wpList_append_run _ rfl _ _ _ _ rfl _ _ rfl rfl _ _ (hrun _) ?_)
   all_goals (go_ret;exact⟨rfl,rfl⟩)
 ·rintro e w' ⟨rfl,rfl⟩;exact⟨g,(Builtin.zeroCells (Value.agg τ.toArray).cells (g-(n+m))).toList,rfl,hge,by rw[hW.out];congr 2;apply Array.ext';simp⟩
theorem eE(sb:Option Addr)(vb voff m vc:Nat)(vs:List Value)(w:World)(hm:0<m)(hbig:m*B<=140737488355328)(hvl:vs.length=m*z)(hvs:Lies w vb voff vs):Calls Tryz.prog F #[.slice sb 0 0,.int .i64 0,.slice (some ⟨vb,voff,none⟩) m vc] w λe w'=>∃g us,e=.returned (.slice (some ⟨w.heap.size,0,none⟩) m g)/\m<=g/\w'=w.drew.alloc (.cells (vs++us).toArray α):=by
 obtain⟨i0,hi0,hz0,hzs,hzb⟩:=Q2 K;have hz1:¬((m:Int)=0):=om K;have mixed:Tryz.prog.follows .mixedOrders=true:=by kernel_rfl
 obtain⟨g,hg⟩:∃g,g=grownCap w (0+m) 0 α:=⟨_,rfl⟩
 obtain⟨W1,hW1⟩:∃W1,W1=w.drew.alloc (.cells (([]:List Value).toArray++vs.toArray++Builtin.zeroCells (Value.agg τ.toArray).cells (g-(0+m))) α):=⟨_,rfl⟩
 have hrun:∀ty,(Builtin.append_ #[S,S] ty #[.slice sb 0 0,.slice (some ⟨vb,voff,none⟩) m vc]).run Tryz.prog w=.ok (.slice (some ⟨w.heap.size,0,none⟩) m g) W1:=λty=>by have:=IN (P:=Tryz.prog) (w:=w) S ty α i0 _ (Ow K) hi0 hz0 (sb:=sb) (olds:=[]) (.inl rfl) (.inr ⟨vb,voff,rfl,hvs⟩) 0 m 0 vc (by simp) (by rw[hvl,hzs]) (om K) (by rw[hzb,A08];exact hbig) (by rw[hzb];cases K<;>decide);rw[this,hW1,hg,A08]
 have hge:m<=g:=by rw[hg];exact A09 (om K) (grownCap_ge w (0+m) 0 _)
 have hW:RowKit.Hid (W1=w.drew.alloc (.cells (([]:List Value).toArray++vs.toArray++Builtin.zeroCells (Value.agg τ.toArray).cells (g-(0+m))) α)):=hW1;clear hvs hvl hW1 hg;refine Calls.mono (R:=λe w'=>e=.returned (.slice (some ⟨w.heap.size,0,none⟩) m g)/\w'=W1) ?_ ?_
 ·rcases sb with _|a
  ·cases K
   case' m=>go_enter Tryz.func133,Tryz.ntmps133
   case' u=>go_enter Tryz.func178,Tryz.ntmps178
   all_goals
    go_wp2_with (at_builtin;refine Lib.wpList_append_run _ rfl _ _ _ _ rfl _ _ rfl rfl _ _ (hrun _) ?_)
    all_goals (go_ret;exact⟨rfl,rfl⟩)
  ·cases K
   case' m=>go_enter Tryz.func133,Tryz.ntmps133
   case' u=>go_enter Tryz.func178,Tryz.ntmps178
   all_goals
    go_wp2_with (at_builtin;refine Lib.wpList_append_run _ rfl _ _ _ _ rfl _ _ rfl rfl _ _ (hrun _) ?_)
    all_goals (go_ret;exact⟨rfl,rfl⟩)
 ·rintro e w' ⟨rfl,rfl⟩;exact⟨g,(Builtin.zeroCells (Value.agg τ.toArray).cells (g-(0+m))).toList,rfl,hge,by rw[hW.out];congr 2;apply Array.ext';simp⟩
theorem Zx(b off n c i vb voff m vc:Nat)(cs vs:List Value)(w:World)(hi:i<n)(hm:0<m)(hnc:n<=c)(hroom:c<n+m)(hbig:(n+m)*B<=140737488355328)(hcl:cs.length=n*z)(hvl:vs.length=m*z)(hcs:Lies w b off cs)(hvs:Lies w vb voff vs)(h1c:∀v∈cs,v.oneCell'=true)(h1v:∀v∈vs,v.oneCell'=true):Calls Tryz.prog F #[.slice (some ⟨b,off,none⟩) n c,.int .i64 i,.slice (some ⟨vb,voff,none⟩) m vc] w λe w'=>∃(g:Nat)(us:List Value),e=.returned (.slice (some ⟨w.heap.size,0,none⟩) (n+m) g)/\n+m<=g/\(n+m-i)*z<=us.length/\w'=(((w.alloc (.cells (cs.take (i*z)++us).toArray α)).drew.setCells w.heap.size (i*z) vs).drew).setCells w.heap.size ((i+m)*z) (cs.drop (i*z)):=by
 have mixed:Tryz.prog.follows .mixedOrders=true:=by kernel_rfl
 obtain⟨i0,hi0,hz0,hzs,hzb⟩:=Q2 K;have hz1:¬((m:Int)=0):=om K;have hz2:¬((i:Int)=(n:Int)):=om K;have hz3:(c:Int)<(n:Int)+(m:Int):=om K;have hbw:b<w.heap.size:=block_lt_of_cell (hcs 0 _ (t6 (om K)));have hvw:vb<w.heap.size:=block_lt_of_cell (hvs 0 _ (t6 (om K)));have hkk:(n:Int)+(m:Int)-(i:Int)=((n+m-i:Nat):Int):=om K;have hik:i+(n+m-i)=n+m:=om K;have hold:(Builtin.firstCells i0.size i (.slice (some ⟨b,off,none⟩) i c)).run Tryz.prog w.drew=.ok (cs.take (i*z)).toArray w.drew:=by
  rw[hzs];exact run_firstCells_some w.drew z i ⟨b,off,none⟩ i c (cs.take (i*z)) (by rw[A23];exact om K) (λj v hj=>by
   rw[Addr.add_lit];rw[A27]at hj;split at hj
   ·exact hcs j v hj
   ·cases hj)
 obtain⟨G,hG⟩:∃G,G=grownCap w (n+m) c α:=⟨_,rfl⟩
 obtain⟨us,hus⟩:∃us,us=(Builtin.zeroCells (Value.agg τ.toArray).cells (n+m-i)).toList++(Builtin.zeroCells (Value.agg τ.toArray).cells (G-(n+m))).toList:=⟨_,rfl⟩
 have hul:(n+m-i)*z<=us.length:=by rw[hus,w9,Array.length_toList];cases K<;>simp[Builtin.zeroCells,Value.cells,zU,zM]
 obtain⟨W1,hW1⟩:∃W1,W1=w.drew.alloc (.cells (cs.take (i*z)++us).toArray α):=⟨_,rfl⟩
 have hrz:∀ty,(Builtin.append_ #[S,3] ty #[.slice (some ⟨b,off,none⟩) i c,.int .i64 ((n:Int)+(m:Int)-(i:Int))]).run Tryz.prog w=.ok (.slice (some ⟨w.heap.size,0,none⟩) (n+m) G) W1:=λty=>by have h:=Lib.run_append_grow_zeros w S 3 ty α i0 _ .i64 .i64 (Ow K) Tryz.underlying3 hi0 hz0 (some ⟨b,off,none⟩) i c (cs.take (i*z)) hold (n+m-i) (om K) (om K) (om K) (om K) (by rw[hzb];exact om K) (by rw[hzb,hik];exact growslice_fits hroom hbig);rw[hik]at h;rw[hkk,h,hW1,hus,hG];congr 3;simp
 have hRl:(n+m)*z<=(cs.take (i*z)++us).toArray.size:=by rw[List.size_toArray,w9,A23,hcl];exact om K
 have hN:∀j,j<(n+m)*z->(W1.cell? ⟨w.heap.size,j,none⟩).isSome=true:=λj hj=>by rw[hW1,World.cell?_alloc_at (w:=w.drew) _ _ w.heap.size j rfl,w7 (om K)];rfl
 have hNf:∀j,W1.frozen? ⟨w.heap.size,j,none⟩=false:=λj=>by rw[hW1];exact World.frozen?_alloc_at (w:=w.drew) _ _ w.heap.size j rfl
 have hOb:∀j v,w.cell? ⟨b,j,none⟩=some v->W1.cell? ⟨b,j,none⟩=some v:=λj v h=>by rw[hW1,World.cell?_alloc_past (w:=w.drew) _ b j hbw];exact h
 have hOv:∀j v,w.cell? ⟨vb,j,none⟩=some v->W1.cell? ⟨vb,j,none⟩=some v:=λj v h=>by rw[hW1,World.cell?_alloc_past (w:=w.drew) _ vb j hvw];exact h
 have hcpA:∀(ρ:World),(∀x,ρ.cell? x=W1.cell? x)->(∀x,ρ.frozen? x=W1.frozen? x)->∀ty dc,(Builtin.copy_ #[S,S] ty #[.slice (some ⟨w.heap.size,i*z,none⟩) (n+m-i) dc,.slice (some ⟨vb,voff,none⟩) m vc]).run Tryz.prog ρ=.ok (goInt m) (ρ.setCells w.heap.size (i*z) vs):=λρ hWc hWf ty dc=>
  Ld ρ _ _ ty α w.heap.size (i*z) (n+m-i) dc ⟨vb,voff,none⟩ m vc m vs (Ow K) hi0 (by simp only[Nat.min_def];split<;>exact om K) (by rw[hvl,hzs])
   (λj v hj=>by rw[Addr.add_lit,hWc];exact hOv _ v (hvs j v hj))
   (λj hj=>by rw[hvl]at hj;rw[hWc];exact hN _ (om K)) (λj hj=>by rw[hWf];exact hNf _) h1v
 have hGn:n+m<=G:=by rw[hG];exact grownCap_ge w _ _ _
 have hG63:G<=9223372036854775807:=by have:=grownCap_le_maxLen w (n+m) c α (by unfold maxLen;exact om K);rw[<-hG]at this;unfold maxLen at this;exact om K
 have hGi:¬(G=i):=om K;have hGim:¬(G=i+m):=om K;have hci:¬(c=i):=om K;have hbN:b≠w.heap.size:=om K;have hdl:(cs.drop (i*z)).length=(n-i)*z:=by rw[A11,hcl,Nat.sub_mul]
 have hcpB:∀(ρ:World),(∀x,ρ.cell? x=(W1.setCells w.heap.size (i*z) vs).cell? x)->(∀x,ρ.frozen? x=(W1.setCells w.heap.size (i*z) vs).frozen? x)->∀ty dc sc,(Builtin.copy_ #[S,S] ty #[.slice (some ⟨w.heap.size,(i+m)*z,none⟩) (n+m-(i+m)) dc,.slice (some ⟨b,off+i*z,none⟩) (n-i) sc]).run Tryz.prog ρ=.ok (goInt ((n-i:Nat):Int)) (ρ.setCells w.heap.size ((i+m)*z) (cs.drop (i*z))):=λρ hWc hWf ty dc sc=>
  Ld ρ _ _ ty α w.heap.size ((i+m)*z) (n+m-(i+m)) dc ⟨b,off+i*z,none⟩ (n-i) sc (n-i) (cs.drop (i*z)) (Ow K) hi0 (by simp only[Nat.min_def];split<;>exact om K) (by rw[hdl,hzs])
   (λj v hj=>by rw[Addr.add_lit,hWc,World.cell?_setCells_out _ _ _ _ _ (λh _=>absurd h hbN),A15];exact hOb _ v (hcs (i*z+j) v (by rwa [A48]at hj)))
   (λj hj=>by rw[hdl]at hj;rw[hWc];exact World.isSome_setCells _ _ _ _ _ (hN _ (om K)))
   (λj hj=>by rw[hWf,World.frozen?_setCells];exact hNf _) (λv hv=>h1c v (List.mem_of_mem_drop hv))
 refine Calls.mono (R:=λe w'=>e=.returned (.slice (some ⟨w.heap.size,0,none⟩) (n+m) G)/\w'=(((w.alloc (.cells (cs.take (i*z)++us).toArray α)).drew.setCells w.heap.size (i*z) vs).drew).setCells w.heap.size ((i+m)*z) (cs.drop (i*z))) ?_ (λe w' hh=>⟨G,us,hh.1,hGn,hul,hh.2⟩);have hW:RowKit.Hid (W1=w.drew.alloc (.cells (cs.take (i*z)++us).toArray α)):=hW1;obtain⟨ROW,hROW⟩:∃ROW:Array Value,ROW=(cs.take (i*z)++us).toArray:=⟨_,rfl⟩
 rw[<-hROW]at hW1⊢;subst hW1;have hE1:∀x,((w.alloc (.cells ROW α)).drew).cell? x=(w.drew.alloc (.cells ROW α)).cell? x:=λx=>rfl
 have hE2:∀x,((w.alloc (.cells ROW α)).drew).frozen? x=(w.drew.alloc (.cells ROW α)).frozen? x:=λx=>rfl
 have hF1:∀x,(((w.alloc (.cells ROW α)).drew.setCells w.heap.size (i*z) vs).drew).cell? x=((w.drew.alloc (.cells ROW α)).setCells w.heap.size (i*z) vs).cell? x:=λx=>rfl
 have hF2:∀x,(((w.alloc (.cells ROW α)).drew.setCells w.heap.size (i*z) vs).drew).frozen? x=((w.drew.alloc (.cells ROW α)).setCells w.heap.size (i*z) vs).frozen? x:=λx=>rfl
 have hw1:IntKind.i64.wrap ((i:Int)+(m:Int))=(i:Int)+(m:Int):=by rw[IntKind.wrap_i64];exact om K
 have hb1:(0:Int)<=(i:Int)+(m:Int):=om K;have hin:i<=n:=om K;have htn:((i:Int)+(m:Int)).toNat=i+m:=om K;have hb3:(i:Int)<=(n:Int):=om K;clear hkk hik hold hROW hG hRl hus hul hN hNf hOb hOv hdl hcs hvs h1c h1v hcl hvl hW;cases K
 case' m=>go_enter Tryz.func133,Tryz.ntmps133
 case' u=>go_enter Tryz.func178,Tryz.ntmps178
 all_goals
  go_wp2_with (first
   |(at_builtin;refine Lib.wpList_append_run _ rfl _ _ _ _ rfl _ _ rfl rfl _ _ (hrz _) ?_)
   |(at_builtin;refine wpList_copy_runI _ rfl _ _ _ _ rfl _ _ rfl rfl (hcpA _ hE1 hE2 _ _) ?_))
  go_region_law_o (refine step_copy_runI rfl _ _ _ _ rfl _ _ (by simp[Act.eval,Act.put]) (by simp[Act.eval,Act.put]) (hcpB _ hF1 hF2 3 (G-(i+m)) (c-i)) ?_)
  go_wp2
  go_ret
  exact⟨rfl,rfl⟩
theorem RG{rows:List (List AV)}{u d:List AV}{i:Nat}(hi:i<=rows.length)(hn:(rows.length+1)*B<=140737488355328)(hr6:∀r∈rows,r.length=z):Kg Tryz.prog F z rows [.i i,.sl z false [u] d] (rows.take i++[u]++rows.drop i):=by
 intro U vs vals base b o cap gl hlt hr hv h1 hl hc hor;obtain⟨y1,ys1,rfl,r1,r2⟩:=hr;obtain⟨y2,ys2,rfl,r3,r4⟩:=r2;simp only[RepL]at r4;subst r4;simp only[Rep]at r1;subst r1;obtain⟨vbase,vc,us,rfl,_,_,u1,u2,_,u3,_,u4,_⟩:=Mn r3;rcases u4 with u4|⟨vb,voff,rfl,⟨z1,z2,z3⟩,u5⟩
 ·cases u4
 rcases u3 with u3|⟨u3,u6⟩
 ·cases u3
 simp only[List.length_singleton,Nat.one_mul]at u6;have e1:rows.flatten=(rows.take i).flatten++(rows.drop i).flatten:=by rw[<-List.flatten_append,A37]
 rw[e1]at hv;obtain⟨xs,ys,rfl,v1,v2⟩:=Ha hv;have lx:xs.length=i*z:=by rw[Bx v1,NB λr hr=>hr6 r (List.mem_of_mem_take hr),A23];exact om K
 have ly:ys.length=(rows.length-i)*z:=by rw[Bx v2,NB λr hr=>hr6 r (List.mem_of_mem_drop hr),A11]
 have t1:(xs++ys).take (i*z)=xs:=by rw[<-lx,List.take_left]
 have t2:(xs++ys).drop (i*z)=ys:=by rw[<-lx,List.drop_left]
 have o1:∀v∈xs++ys,v.oneCell'=true:=λv hv=>RF (h1 v hv)
 have o2:∀v∈us,v.oneCell'=true:=λv hv=>RF (u2 v hv)
 have hfl:(rows.take i++[u]++rows.drop i).flatten=(rows.take i).flatten++(([u]:List (List AV)).flatten++(rows.drop i).flatten):=by simp
 have hln:(rows.take i++[u]++rows.drop i).length=rows.length+1:=by rw[w9,w9,A23,A11,List.length_singleton];omega
 have fin:∀(b' o' cap':Nat)(w':World),rows.length+1<=cap'->KeptB b U.w w'->(b'=b\/U.w.heap.size<=b')->b'<w'.heap.size->Lies w' b' o' (xs++(us++ys))->∃(b'' o'' cap'':Nat)(vals':List Value),(Ending.returned (.slice (some ⟨b',o',none⟩) (rows.length+1) cap'):Ending)=.returned (.slice (some ⟨b'',o'',none⟩) (rows.take i++[u]++rows.drop i).length cap'')/\(rows.take i++[u]++rows.drop i).length<=cap''/\KeptB b U.w w'/\(b''=b\/U.w.heap.size<=b'')/\b''<w'.heap.size/\Lies w' b'' o'' vals'/\RepL U (rows.take i++[u]++rows.drop i).flatten vals'/\∀x∈vals',Bp x=true:=λb' o' cap' w' q1 q2 q3 q4 q5=>
  ⟨b',o',cap',xs++(us++ys),by rw[hln],by rw[hln];exact q1,q2,q3,q4,q5,by rw[hfl];exact Dz v1 (Dz u1 v2),λx hx=>by
   rcases y7.1 hx with hx|hx
   ·exact h1 x (by simp[hx])
   ·rcases y7.1 hx with hx|hx
    ·exact u2 x hx
    ·exact h1 x (by simp[hx])⟩
 have nd:U.w.drew.heap.size=U.w.heap.size:=rfl;rcases hor with⟨rfl,hcap,hlies,hM,cs,T,hb,hsz⟩|⟨rfl,hbz⟩
 ·have hbl:b<U.w.heap.size:=hlt b (.inl hM);have hvb:vb≠b:=λe=>z1 (e▸hM)
  have hfb:∀j,U.w.frozen? ⟨b,j,none⟩=false:=λj=>by simp[World.frozen?,hb]
  have hsome:∀j,j<cap*z->(U.w.cell? ⟨b,o+j,none⟩).isSome=true:=λj hj=>by
   have e:U.w.cell? ⟨b,o+j,none⟩=cs[o+j]? :=by simp only[World.cell?,hb];rfl
   rw[e,w7 (om K)];rfl
  by_cases hroom:rows.length+1<=cap
  ·by_cases hin:i<rows.length
   ·have hsh:∃tA kA,U.w.shape? vb=some (tA,kA)/\kA≠0:=by
     have h0:=u5 0 _ (t6 (om K));unfold World.cell? at h0;simp only[A43]at h0;split at h0
     ·rename_i c t f hc;refine⟨t,c.size,by unfold World.shape?;rw[hc],λe=>?_⟩;simp only[A50,yF,if_false]at h0;have:=(u0.1 h0).1;exact om K
     ·cases h0
    obtain⟨tA,kA,hsa,hkA⟩:=hsh;have hsb:U.w.shape? b=some (T,cs.size):=by unfold World.shape?;rw[hb]
    refine(VC K b o rows.length cap i vb voff 1 vc (xs++ys) us U.w hin (om K) hroom (om K) hvb hl (om K) hlies (λj hj=>hsome j (om K)) (λj _=>hfb _) u5 o1 o2 tA T kA cs.size hsa hsb hkA hfb).mono ?_;rintro e w' ⟨rfl,rfl⟩;rw[t2];obtain⟨k1,s1⟩:=KeptB.cells b ys (o+(i+1)*z) U.w.drew;obtain⟨k2,s2⟩:=KeptB.cells b us (o+i*z) (U.w.drew.setCells b (o+(i+1)*z) ys);refine fin b o cap _ hroom (((KeptB.drew b U.w).trans k1).trans k2) (.inl rfl) (by rw[s2,s1];exact hbl) ?_;have hlx:Lies U.w.drew b o xs:=hlies.left;refine((hlx.setOut (.inl (om K))).setOut (.inl (om K))).app ?_;rw[lx];refine(Lies.setIn λj hj=>?_).app ?_
    ·refine World.isSome_setCells b _ _ U.w.drew _ ?_;rw[A15];exact hsome _ (om K)
    ·rw[show o+i*z+us.length=o+(i+1)*z from om K];refine(Lies.setIn λj hj=>?_).setOut (.inr (om K));rw[A15];exact hsome _ (om K)
   ·obtain rfl:i=rows.length:=om K;have hy:ys=[]:=A45.1 (om K);subst hy;refine(SW K b o rows.length cap vb voff 1 vc us U.w (om K) hroom (om K) (om K) (λj hj=>by rw[A15];exact hsome _ (om K)) (λj _=>hfb _) u5 o2).mono ?_;rintro e w' ⟨rfl,rfl⟩;obtain⟨k1,s1⟩:=KeptB.cells b us (o+rows.length*z) U.w;refine fin b o cap _ hroom k1 (.inl rfl) (by rw[s1];exact hbl) ?_;refine(hlies.left.setOut (.inl (om K))).app ?_;rw[lx,A05];refine Lies.setIn λj hj=>?_
    rw[A15];exact hsome _ (om K)
  ·have hnc:rows.length=cap:=om K;by_cases hin:i<rows.length
   ·refine(Zx K b o rows.length cap i vb voff 1 vc (xs++ys) us U.w hin (om K) hc (om K) hn hl (om K) hlies u5 o1 o2).mono ?_;rintro e w' ⟨g,zs,rfl,hg,hz,rfl⟩;rw[t1,t2];obtain⟨k1,s1⟩:=KeptB.cells U.w.heap.size us (i*z) (U.w.alloc (.cells (xs++zs).toArray α)).drew;obtain⟨k2,s2⟩:=KeptB.cells U.w.heap.size ys ((i+1)*z) ((U.w.alloc (.cells (xs++zs).toArray α)).drew.setCells U.w.heap.size (i*z) us).drew;have k0:=KeptB.alloc b U.w (.cells (xs++zs).toArray α);have sA:(U.w.alloc (.cells (xs++zs).toArray α)).drew.heap.size=U.w.heap.size+1:=P9 _ _;have s1':((U.w.alloc (.cells (xs++zs).toArray α)).drew.setCells U.w.heap.size (i*z) us).drew.heap.size=U.w.heap.size+1:=s1.trans sA;have s2':=s2.trans s1';have cell:∀j,j<(xs++zs).length->((U.w.alloc (.cells (xs++zs).toArray α)).drew.cell? ⟨U.w.heap.size,j,none⟩).isSome=true:=λj hj=>by show((U.w.alloc (.cells (xs++zs).toArray α)).cell? ⟨U.w.heap.size,j,none⟩).isSome=true;rw[World.cell?_alloc_at _ _ _ j rfl,List.getElem?_toArray,t6 hj];rfl
    have lxz:(xs++zs).length=i*z+zs.length:=by rw[w9,lx]
    refine fin U.w.heap.size 0 g _ hg ⟨λx hx hne=>?_,by rw[s2'];exact om K,⟨k2.io.1.trans (k1.io.1.trans k0.io.1),k2.io.2.trans (k1.io.2.trans k0.io.2)⟩⟩ (.inr (w6 _)) (by rw[s2'];exact om K) ?_
    ·rw[k2.heap x (by rw[s1'];exact om K) (om K)];refine(k1.heap x (by rw[sA];exact om K) (om K)).trans ?_;exact k0.heap x hx hne
    ·have hx0:Lies (U.w.alloc (.cells (xs++zs).toArray α)).drew U.w.heap.size 0 xs:=by intro j v hj;show(U.w.alloc (.cells (xs++zs).toArray α)).cell? ⟨U.w.heap.size,0+j,none⟩=some v;rw[World.cell?_alloc_at _ _ _ (0+j) rfl,A08,List.getElem?_toArray,A31 (y5.1 hj).1];exact hj
     have hx1:Lies ((U.w.alloc (.cells (xs++zs).toArray α)).drew.setCells U.w.heap.size (i*z) us).drew U.w.heap.size 0 xs:=hx0.setOut (.inl (om K));have hu1:Lies ((U.w.alloc (.cells (xs++zs).toArray α)).drew.setCells U.w.heap.size (i*z) us).drew U.w.heap.size (i*z) us:=Lies.setIn λj hj=>cell _ (om K)
     refine(hx1.setOut (.inl (om K))).app ?_;rw[lx,A08];refine(hu1.setOut (.inl (om K))).app ?_;rw[show i*z+us.length=(i+1)*z from om K];refine Lies.setIn λj hj=>?_
     exact World.isSome_setCells _ _ _ _ _ (cell _ (om K))
   ·obtain rfl:i=rows.length:=om K;have hy:ys=[]:=A45.1 (om K);subst hy;rw[A05]at hlies hl;refine(SX K b o rows.length cap vb voff 1 vc xs us U.w (om K) hc (om K) hn hl (om K) hlies u5).mono ?_;rintro e w' ⟨g,zs,rfl,hg,rfl⟩;refine fin U.w.heap.size 0 g _ hg ((KeptB.drew b U.w).trans (KeptB.alloc b U.w.drew _)) (.inr (w6 _)) (by rw[P9];exact A54 _) ?_;rw[A05];exact(Q1 U.w.drew U.w.heap.size rfl (xs++us++zs) _).left
 ·have h0:rows=[]:=A45.1 (om K);subst h0;have hi0:i=0:=by simpa using hi
  subst hi0;have hx0:xs=[]:=A45.1 (om K);have hy0:ys=[]:=A45.1 (by rw[ly,A33];exact om K);subst hx0;subst hy0;refine(eE K base vb voff 1 vc us U.w (om K) hn (om K) u5).mono ?_;rintro e w' ⟨g,zs,rfl,hg,rfl⟩;refine fin U.w.heap.size 0 g _ hg ((KeptB.drew b U.w).trans (KeptB.alloc b U.w.drew _)) (.inr (w6 _)) (by rw[P9];exact A54 _) ?_;rw[A05,A02];exact(Q1 U.w.drew U.w.heap.size rfl (us++zs) _).left
end
end
section
open Go
attribute [local irreducible] Aq BD Bv A8 Bq Ba AQ Bw By Ck
theorem XU:C0 Tryz.prog 178:=⟨_,Tryz.func178,by kernel_rfl,by kernel_rfl⟩
theorem Aa3:C0 Tryz.prog 179:=⟨_,Tryz.func179,by kernel_rfl,by kernel_rfl⟩
theorem MQ{l:List Un}:∀r∈l.map Ap,r.length=6/\AA r=true:=λr hr=>by obtain⟨x,_,rfl⟩:=List.mem_map.1 hr;exact⟨rfl,rfl⟩
theorem WP{l:List Un}{i:Int}{u:Un}{d:List AV}(h0:0<=i)(h1:i<=l.length)(h2:(l.length+1)*64<=140737488355328):Kg Tryz.prog 178 6 (l.map Ap) [.i i,.sl 6 false [Ap u] d] ((l.take i.toNat++[u]++l.drop i.toNat).map Ap):=by have h:=RG .u (rows:=l.map Ap) (u:=Ap u) (d:=d) (i:=i.toNat) (by rw[A04];omega) (by rw[A04];exact h2) (λr hr=>(MQ r hr).1);rw[show((i.toNat:Nat):Int)=i by omega]at h;rw[A24,A24,List.map_take,List.map_drop];exact h
theorem oP{l:List Un}{i:Int}(h0:0<=i)(h1:i<l.length)(h2:(l.length:Int)<=9223372036854775807):Kg Tryz.prog 179 6 (l.map Ap) [.i i,.i (i+1)] ((l.take i.toNat++l.drop (i.toNat+1)).map Ap):=by have h:=nQ (rows:=l.map Ap) (i:=i.toNat) (by rw[A04];omega) (by rw[A04];omega) (λr hr=>(MQ r hr).1);rw[show((i.toNat:Nat):Int)=i by omega,show((i.toNat+1:Nat):Int)=i+1 by omega]at h;rw[A24,List.map_take,List.map_drop];exact h
end
open Go
attribute [local irreducible] Aq BD Bv A8 Bq Ba AQ Bw By Ck
attribute [local go_sem] UZ
def CO(N:Nat)(f713:List (Int×Int×Int×(List (Int×Int))×Int×Int)):Nat->Int->Option (Sum Unit Bool)|0,_=>none|n+1,ae=>bif decide (ae<(f713.length:Int))then((Bz f713 ae).bind λ(ay,dh,dg,de,db,da)=>(BG N ay dh dg de db da).bind λdz=>gd ((decide (0<ae))=true->(Ai (ae-1)))<|gd ((decide (0<ae))=true->(0<=ae-1/\ae-1<(f713.length:Int)))<|bif (!dz)||((decide (0<ae))&&(decide (ay<=(f713.getD (ae-1).toNat (0,0,0,[],0,0)).1)))then(some (.inr false))else(gd (Ai (ae+1))<|CO N f713 n (ae+1)))else(some (.inl ()))
def DN(N:Nat):List ((Int×Int×Int×(List (Int×Int))×Int×Int)×(Int×Int×Int×(List (Int×Int))×Int×Int))->Option (Sum Unit Bool)|[]=>some (.inl ())|((bq,bp,bo,bn,bm,bl),(bj,bi,bh,bg,bf,be))::ys=>(CW N bq bp bo bn bm bl bj bi bh bg bf be).bind λdy=>bif dy then(some (.inr false))else(DN N ys)
def Ef(N:Nat)(f713:List (Int×Int×Int×(List (Int×Int))×Int×Int)):Option Bool:=bif decide (12<(f713.length:Int))then(some false)else((CO N f713 N 0).bind λaz=>match az with|.inl ()=>(gd (f713.length<=1000000000)<|(DN N (EM f713)).bind λaq=>match aq with|.inl ()=>(some true)|.inr fr=>(some fr))|.inr fx=>(some fx))
@[go_sem] def s58(N:Nat):Spec:=p0<|(qG<|qD Ak<|qE<|qE<|qF false .b) (Ef N)
theorem QW(N:Nat):Au Tryz.prog 31 (s58 N):=by
 refine fk (wX K2 (Aa (Md N)<|Aa aF<|Aa (Uk N)<|Ae)) ?_;intro f713 r h _ hS F;dsimp only[K2,Ad,Ak];unfold Ef at h;refine An hS F h (λ_ h=>?_) (λ_ h=>?_)
 ·exact Ah hS F h
 ·obtain⟨az,e9,h⟩:=un h;refine go hS F ?_;refine BU az (λz:Nat=>⟨[(1,.box (0,1) 0),(2,.box (1,1) 0)],[(.c (1,1) 0,.b false),(.c (0,1) 0,Ao f713)],z⟩) (λz=>(.inl ():Sum Unit Bool)) (.x 0) ?_ ?_
  ·refine BO (λn (y:Int×Nat)=>CO N f713 n y.1) (λy=>⟨[(1,.box (0,1) 0),(2,.box (1,1) 0),(12,Ao f713),(13,.i (f713.length:Int)),(14,.i y.1)],[(.c (1,1) 0,.b false),(.c (0,1) 0,Ao f713)],y.2⟩) (0,3) e9 (CB F) ?_;rintro n ⟨ae,fh⟩ ab;simp only[CO]at ab;refine An hS F ab (λ_ ab=>?_) (λ_ ab=>?_)
   ·obtain⟨⟨ay,dh,dg,de,db,da⟩,e8,ab⟩:=un ab;obtain⟨gu,F⟩:=CH Ap e8 F;obtain⟨dz,el,gj,gi,ab⟩:=un ab;replace F:=fc el F;refine An hS F ab (λ_ ab=>?_) (λ_ ab=>?_)
    ·obtain rfl:=yJ ab;exact Ah hS F h
    ·obtain⟨gh,ab⟩:=un ab;exact CS hS F (n,ae+1,fh+1+1+1+1) ab
   ·exact Cu hS F (fh+1) ab
  ·rintro ge rfl;obtain⟨gg,h⟩:=un h;obtain⟨aq,gx,h⟩:=un h;refine go hS F ?_;refine BU aq (λz:Nat=>⟨[(2,.box (1,1) 0)],[(.c (1,1) 0,.b false)],z⟩) (λz=>(.inl ():Sum Unit Bool)) .n ?_ ?_
   ·refine Nr (λy:Nat×Nat=>([(.c (1,1) 0,.b false)],y.2)) (λy=>DN N ((EM f713).drop y.1)=some aq/\y.1<=(EM f713).length) (λy=>y.1) (0,ge+1) (ev F) (fM f713 false (by assumption)) x83.ok ⟨rfl,rfl⟩ (by simp[K2,Ad]) (by intro a ha;obtain⟨y,_,rfl⟩:=List.mem_map.1 ha;exact⟨rfl,rfl⟩) ⟨gx,A16 _⟩ rfl ?_ ?_ ?_
    ·exact CB F
    ·rintro l ⟨n,bb⟩ ⟨ak,hle⟩ args gw;obtain⟨⟨⟨bq,bp,bo,bn,bm,bl⟩,⟨bj,bi,bh,bg,bf,be⟩⟩,d5,rfl,hlt⟩:=JZ gw;simp only[d5,DN]at ak;clear gw d5;simp only[kH,Gq];obtain⟨dy,ej,ak⟩:=un ak;replace F:=fc ej F;refine An hS F ak (λ_ ak=>?_) (λ_ ak=>?_)
     ·obtain rfl:=yJ ak;exact Ah hS F h
     ·exact TP hS F (n+1,bb+1+1+1) ak
    ·rintro⟨n,bb⟩ ⟨ak,hle⟩ hk;rw[show n=_ from hk,J0]at ak;simp only[DN]at ak;exact Cu hS F bb ak
   ·rintro g8 rfl;exact Ah hS F h
def FG(N:Nat)(dl:Int)(fq:Int)(fp:Int)(fo:List (Int×Int))(fm:Int)(fj:Int)(aw:Int):Option Int:=(DM N dl aw).bind λdx=>some dx
@[go_sem] def s86(N:Nat):Spec:=p0<|(qG<|qI<|qI<|qI<|qS Aj<|qI<|qI<|qE<|qI<|qE<|qF 0 .i) (FG N)
theorem AaG(N:Nat):Au Tryz.prog 34 (s86 N):=by refine fk (wX YQ (Aa (Uh N)<|Ae)) ?_;intro dl fq fp fo fm fj aw r h _ hS F;dsimp only[YQ,Ad,Aj];unfold FG at h;obtain⟨dx,eh,h⟩:=un h;exact Ah hS (fc eh F) h
def AJ(N:Nat)(x768:List (Int×Int×Int×(List (Int×Int))×Int×Int))(aa:Int):Nat->Int->Int->Option Int|0,_,_=>none|n+1,ah,ai=>bif decide (ah<ai)then(gd (Ai (ah+ai))<|(Bz x768 (IntKind.wrap .i64 (D5 .shr .u64 (IntKind.wrap .u64 (ah+ai)) 1))).bind λ(cy,cu,cr,cq,co,cn)=>(FG N cy cu cr cq co cn aa).bind λdw=>bif decide (dw<0)then(gd (Ai ((IntKind.wrap .i64 (D5 .shr .u64 (IntKind.wrap .u64 (ah+ai)) 1))+1))<|AJ N x768 aa n ((IntKind.wrap .i64 (D5 .shr .u64 (IntKind.wrap .u64 (ah+ai)) 1))+1) ai)else(AJ N x768 aa n ah (IntKind.wrap .i64 (D5 .shr .u64 (IntKind.wrap .u64 (ah+ai)) 1))))else(some ah)
def AP(N:Nat)(x768:List (Int×Int×Int×(List (Int×Int))×Int×Int))(aa:Int):Option (Int×Bool):=(AJ N x768 aa N 0 (x768.length:Int)).bind λi796=>gd ((decide (i796<(x768.length:Int)))=true->(0<=i796/\i796<(x768.length:Int)))<|gd ((decide (i796<(x768.length:Int)))=true->((FG N ((x768.getD i796.toNat (0,0,0,[],0,0)).1) ((x768.getD i796.toNat (0,0,0,[],0,0)).2.1) ((x768.getD i796.toNat (0,0,0,[],0,0)).2.2.1) ((x768.getD i796.toNat (0,0,0,[],0,0)).2.2.2.1) ((x768.getD i796.toNat (0,0,0,[],0,0)).2.2.2.2.1) ((x768.getD i796.toNat (0,0,0,[],0,0)).2.2.2.2.2) aa).isSome=true))<|some (i796,(decide (i796<(x768.length:Int)))&&(decide ((FG N ((x768.getD i796.toNat (0,0,0,[],0,0)).1) ((x768.getD i796.toNat (0,0,0,[],0,0)).2.1) ((x768.getD i796.toNat (0,0,0,[],0,0)).2.2.1) ((x768.getD i796.toNat (0,0,0,[],0,0)).2.2.2.1) ((x768.getD i796.toNat (0,0,0,[],0,0)).2.2.2.2.1) ((x768.getD i796.toNat (0,0,0,[],0,0)).2.2.2.2.2) aa).getD 0=0)))
@[go_sem] def mZ(N:Nat):Spec:=p0<|(qD Ak<|qI<|qL 34<|qE<|qE<|qF (0,false) λr=>.tup [.i r.1,.b r.2]) (AP N)
theorem Om(N:Nat):Au Tryz.prog 33 (mZ N):=by
 refine fk (wX Wn (Aa (AaG N)<|Ae)) ?_;intro x768 aa r h _ hS F;dsimp only[Wn,Ad,Ak];unfold AP at h;obtain⟨gc,e9,h⟩:=un h;refine go hS F ?_;refine BU gc (λz:Int×Nat=>⟨[(0,Ao x768),(1,.i aa),(2,.clo (.func 34) [] []),(8,.i (x768.length:Int)),(9,.i z.1)],[],z.2⟩) (λz=>(z.1:Int)) (.x 0) ?_ ?_
 ·refine BO (λn (y:Int×Int×Nat)=>AJ N x768 aa n y.1 y.2.1) (λy=>⟨[(0,Ao x768),(1,.i aa),(2,.clo (.func 34) [] []),(8,.i (x768.length:Int)),(9,.i y.1),(10,.i y.2.1)],[],y.2.2⟩) (0,(x768.length:Int),3) e9 (CB F) ?_;rintro n ⟨ah,ai,ba⟩ ab;simp only[AJ]at ab;refine An hS F ab (λ_ ab=>?_) (λ_ ab=>?_)
  ·obtain⟨gj,⟨cy,cu,cr,cq,co,cn⟩,ez,ab⟩:=un ab;obtain⟨gt,F⟩:=CH Ap ez F;obtain⟨dw,ee,ab⟩:=un ab;replace F:=fc ee F;refine An hS F ab (λ_ ab=>?_) (λ_ ab=>?_)
   ·obtain⟨gi,ab⟩:=un ab;exact CS hS F (n,(IntKind.wrap .i64 (D5 .shr .u64 (IntKind.wrap .u64 (ah+ai)) 1))+1,ai,ba+1+1+1+1) ab
   ·exact CS hS F (n,ah,IntKind.wrap .i64 (D5 .shr .u64 (IntKind.wrap .u64 (ah+ai)) 1),ba+1+1+1+1) ab
  ·exact Cu hS F (ah,ba+1) ab
 ·rintro⟨i796,gz⟩ rfl;obtain⟨gh,gg,h⟩:=un h;by_cases hi:i796<(x768.length:Int)
  ·have hd:decide (i796<(x768.length:Int))=true:=q9 hi;obtain⟨c,hc⟩:=yX (gg hd);have hq:=(CH Ap (MJ (0,0,0,[],0,0) (gh hd).1 hi) F).2.1;exact Ah hS (fc hc (fc hd (fc hq F))) h
  ·have hd:decide (i796<(x768.length:Int))=false:=s6 hi;exact Ah hS (fc (YC Ap hi) (fc hd F)) h
def BV(N:Nat)(au:List (Int×Int×Int×(List (Int×Int))×Int×Int))(av:Int):Option ((Int×Int×Int×(List (Int×Int))×Int×Int)×Bool):=(Ef N au).bind λdu=>bif !du then(some ((0,0,0,[],0,0),false))else((AP N au av).bind λ(dt,dq)=>bif !dq then(some ((0,0,0,[],0,0),false))else((Bz au dt).bind λ(ck,cj,ci,x808,ce,b9)=>gd (x808≠[])<|gd ((x808.length)*16<=140737488355328)<|some ((ck,cj,ci,x808,ce,b9),true)))
@[go_sem] def s38(N:Nat):Spec:=p0<|(qG<|qD Ak<|qE<|qI<|qE<|qF ((0,0,0,[],0,0),false) λr=>.tup [.agg [.i r.1.1,.i r.1.2.1,.i r.1.2.2.1,BK r.1.2.2.2.1,.i r.1.2.2.2.2.1,.i r.1.2.2.2.2.2],.b r.2]) (BV N)
theorem S4(N:Nat):Au Tryz.prog 8 (s38 N):=by
 refine fk (wX x8 (Aa (QW N)<|Aa (Om N)<|Ae)) ?_;intro au av r h _ hS F;dsimp only[x8,Ad,Ak];unfold BV at h;obtain⟨du,d9,h⟩:=un h;replace F:=fc d9 F;refine An hS F h (λ_ h=>?_) (λ_ h=>?_)
 ·exact Ah hS F h
 ·obtain⟨⟨dt,dq⟩,d8,h⟩:=un h;replace F:=fc d8 F;refine An hS F h (λ_ h=>?_) (λ_ h=>?_)
  ·exact Ah hS F h
  ·obtain⟨⟨ck,cj,ci,x808,ce,b9⟩,eu,h⟩:=un h;obtain⟨gr,F⟩:=CH Ap eu F;refine go hS F ?_;refine C3 hS 2 x35.hf x35.hc x35.hn x35.ok rfl (ev F) (ev F) ?_ rfl (ev F) (A01 rfl) λhb=>?_
   ·exact AS hS F
   dsimp only[x35,Ad];obtain⟨ib,h⟩:=un h;refine Gn hS F ?_;obtain⟨g9,h⟩:=un h;exact Ah hS F h
def Em(N:Nat)(f812:List (Int×Int×Int×(List (Int×Int))×Int×Int)):Nat->Int->Int->Option Int|0,_,_=>none|n+1,af,aj=>bif decide (aj<(f812.length:Int))then((Bz f812 aj).bind λ(b7,bz,bw,bv,bu,br)=>(FW N b7 bz bw bv bu br).bind λan=>gd (Ai (af+an))<|gd (Ai (aj+1))<|Em N f812 n (af+an) (aj+1))else(some af)
def AR(N:Nat)(f812:List (Int×Int×Int×(List (Int×Int))×Int×Int)):Option Int:=(Ef N f812).bind λdm=>bif !dm then(some 0)else((Em N f812 N 0 0).bind λam=>some am)
@[go_sem] def AaH(N:Nat):Spec:=p0<|(qG<|qD Ak<|qE<|qE<|qF 0 .i) (AR N)
theorem nA(N:Nat):Au Tryz.prog 12 (AaH N):=by
 refine fk (wX Sn (Aa (QW N)<|Aa (Wr N)<|Ae)) ?_;intro f812 r h _ hS F;dsimp only[Sn,Ad,Ak];unfold AR at h;obtain⟨dm,d7,h⟩:=un h;replace F:=fc d7 F;refine An hS F h (λ_ h=>?_) (λ_ h=>?_)
 ·exact Ah hS F h
 ·obtain⟨fy,e9,h⟩:=un h;refine go hS F ?_;refine BU fy (λz:Int×Nat=>⟨[(3,.i z.1)],[],z.2⟩) (λz=>(z.1:Int)) (.x 0) ?_ ?_
  ·refine BO (λn (y:Int×Int×Nat)=>Em N f812 n y.1 y.2.1) (λy=>⟨[(3,.i y.1),(10,Ao f812),(11,.i (f812.length:Int)),(12,.i y.2.1)],[],y.2.2⟩) (0,0,4) e9 (CB F) ?_;rintro n ⟨af,aj,fg⟩ ab;simp only[Em]at ab;refine An hS F ab (λ_ ab=>?_) (λ_ ab=>?_)
   ·obtain⟨⟨b7,bz,bw,bv,bu,br⟩,ep,ab⟩:=un ab;obtain⟨gm,F⟩:=CH Ap ep F;obtain⟨an,d6,gj,gi,ab⟩:=un ab;exact CS hS (fc d6 F) (n,af+an,aj+1,fg+1+1+1+1) ab
   ·exact Cu hS F (af,fg+1) ab
  ·rintro⟨am,gy⟩ rfl;exact Ah hS F h
