import Derived.Test.YtjdchfljifacoaaGreatK3
import Derived.Lib.AppendZerosOnto
set_option linter.all false
set_option maxRecDepth 1000000
set_option maxHeartbeats 8000000
namespace Go.Proofs.YtjdchfljifacoaaGreat.Am
section
open Go Go.RowKit Go.Lib
theorem UM(b off n c vb voff m vc:Nat)(cs vs:List Value)(w:World)(hm:0<m)(hnc:n<=c)(hroom:c<n+m)(hbig:(n+m)*64<=140737488355328)(hcl:cs.length=n*6)(hvl:vs.length=m*6)(hcs:Lies w b off cs)(hvs:Lies w vb voff vs):Calls Tryz.prog 203 #[.slice (some ⟨b,off,none⟩) n c,.int .i64 n,.slice (some ⟨vb,voff,none⟩) m vc] w λe w'=>∃g us,e=.returned (.slice (some ⟨w.heap.size,0,none⟩) (n+m) g)/\n+m<=g/\w'=w.drew.alloc (.cells (cs++vs++us).toArray 34):=by
 obtain⟨i0,hi0,hz0,hzs,hzb⟩:=Tm;have hz1:¬((m:Int)=0):=by omega
 have mixed:Tryz.prog.follows .mixedOrders=true:=by kernel_rfl
 obtain⟨g,hg⟩:∃g,g=grownCap w (n+m) c 34:=⟨_,rfl⟩
 obtain⟨W1,hW1⟩:∃W1,W1=w.drew.alloc (.cells (cs.toArray++vs.toArray++Builtin.zeroCells (Value.agg zU.toArray).cells (g-(n+m))) 34):=⟨_,rfl⟩
 have hrun:∀ty,(Builtin.append_ #[26,26] ty #[.slice (some ⟨b,off,none⟩) n c,.slice (some ⟨vb,voff,none⟩) m vc]).run Tryz.prog w=.ok (.slice (some ⟨w.heap.size,0,none⟩) (n+m) g) W1:=λty=>by have:=Hh (P:=Tryz.prog) (w:=w) 26 ty 34 i0 _ Tryz.underlying26 hi0 hz0 (.inr ⟨b,off,rfl,hcs⟩) (.inr ⟨vb,voff,rfl,hvs⟩) n m c vc (by rw[hcl,hzs]) (by rw[hvl,hzs]) hroom (by rw[hzb];exact hbig) (by rw[hzb];decide);rw[this,hW1,hg]
 have hge:n+m<=g:=by rw[hg];exact grownCap_ge w _ _ _
 have hW:RowKit.Hid (W1=w.drew.alloc (.cells (cs.toArray++vs.toArray++Builtin.zeroCells (Value.agg zU.toArray).cells (g-(n+m))) 34)):=hW1;clear hcs hvs hvl hcl hW1 hg;refine Calls.mono (R:=λe w'=>e=.returned (.slice (some ⟨w.heap.size,0,none⟩) (n+m) g)/\w'=W1) ?_ ?_
 ·go_enter Tryz.func203,Tryz.ntmps203
  go_wp2_with (at_builtin;refine Lib.wpList_append_run _ rfl _ _ _ _ rfl _ _ rfl rfl _ _ (hrun _) ?_)
  all_goals (go_ret;exact⟨rfl,rfl⟩)
 ·rintro e w' ⟨rfl,rfl⟩;exact⟨g,(Builtin.zeroCells (Value.agg zU.toArray).cells (g-(n+m))).toList,rfl,hge,by rw[hW.out];congr 2;apply Array.ext';simp⟩
theorem jS(sb:Option Addr)(vb voff m vc:Nat)(vs:List Value)(w:World)(hm:0<m)(hbig:m*64<=140737488355328)(hvl:vs.length=m*6)(hvs:Lies w vb voff vs):Calls Tryz.prog 203 #[.slice sb 0 0,.int .i64 0,.slice (some ⟨vb,voff,none⟩) m vc] w λe w'=>∃g us,e=.returned (.slice (some ⟨w.heap.size,0,none⟩) m g)/\m<=g/\w'=w.drew.alloc (.cells (vs++us).toArray 34):=by
 obtain⟨i0,hi0,hz0,hzs,hzb⟩:=Tm;have hz1:¬((m:Int)=0):=by omega
 have mixed:Tryz.prog.follows .mixedOrders=true:=by kernel_rfl
 obtain⟨g,hg⟩:∃g,g=grownCap w (0+m) 0 34:=⟨_,rfl⟩
 obtain⟨W1,hW1⟩:∃W1,W1=w.drew.alloc (.cells (([]:List Value).toArray++vs.toArray++Builtin.zeroCells (Value.agg zU.toArray).cells (g-(0+m))) 34):=⟨_,rfl⟩
 have hrun:∀ty,(Builtin.append_ #[26,26] ty #[.slice sb 0 0,.slice (some ⟨vb,voff,none⟩) m vc]).run Tryz.prog w=.ok (.slice (some ⟨w.heap.size,0,none⟩) m g) W1:=λty=>by have:=Hh (P:=Tryz.prog) (w:=w) 26 ty 34 i0 _ Tryz.underlying26 hi0 hz0 (sb:=sb) (olds:=[]) (.inl rfl) (.inr ⟨vb,voff,rfl,hvs⟩) 0 m 0 vc (by simp) (by rw[hvl,hzs]) (by omega) (by rw[hzb,oH];exact hbig) (by rw[hzb];decide);rw[this,hW1,hg,oH]
 have hge:m<=g:=by rw[hg];exact oJ (by omega) (grownCap_ge w (0+m) 0 _)
 have hW:RowKit.Hid (W1=w.drew.alloc (.cells (([]:List Value).toArray++vs.toArray++Builtin.zeroCells (Value.agg zU.toArray).cells (g-(0+m))) 34)):=hW1;clear hvs hvl hW1 hg;refine Calls.mono (R:=λe w'=>e=.returned (.slice (some ⟨w.heap.size,0,none⟩) m g)/\w'=W1) ?_ ?_
 ·rcases sb with _|a
  ·go_enter Tryz.func203,Tryz.ntmps203
   go_wp2_with (at_builtin;refine Lib.wpList_append_run _ rfl _ _ _ _ rfl _ _ rfl rfl _ _ (hrun _) ?_)
   all_goals (go_ret;exact⟨rfl,rfl⟩)
  ·go_enter Tryz.func203,Tryz.ntmps203
   go_wp2_with (at_builtin;refine Lib.wpList_append_run _ rfl _ _ _ _ rfl _ _ rfl rfl _ _ (hrun _) ?_)
   all_goals (go_ret;exact⟨rfl,rfl⟩)
 ·rintro e w' ⟨rfl,rfl⟩;exact⟨g,(Builtin.zeroCells (Value.agg zU.toArray).cells (g-(0+m))).toList,rfl,hge,by rw[hW.out];congr 2;apply Array.ext';simp⟩
theorem dM(b off n c i vb voff m vc:Nat)(cs vs:List Value)(w:World)(hi:i<n)(hm:0<m)(hnc:n<=c)(hroom:c<n+m)(hbig:(n+m)*64<=140737488355328)(hcl:cs.length=n*6)(hvl:vs.length=m*6)(hcs:Lies w b off cs)(hvs:Lies w vb voff vs)(h1c:∀v∈cs,v.oneCell'=true)(h1v:∀v∈vs,v.oneCell'=true):Calls Tryz.prog 203 #[.slice (some ⟨b,off,none⟩) n c,.int .i64 i,.slice (some ⟨vb,voff,none⟩) m vc] w λe w'=>∃(g:Nat)(us:List Value),e=.returned (.slice (some ⟨w.heap.size,0,none⟩) (n+m) g)/\n+m<=g/\(n+m-i)*6<=us.length/\w'=(((w.alloc (.cells (cs.take (i*6)++us).toArray 34)).drew.setCells w.heap.size (i*6) vs).drew).setCells w.heap.size ((i+m)*6) (cs.drop (i*6)):=by
 have mixed:Tryz.prog.follows .mixedOrders=true:=by kernel_rfl
 obtain⟨i0,hi0,hz0,hzs,hzb⟩:=Tm;have hz1:¬((m:Int)=0):=by omega
 have hz2:¬((i:Int)=(n:Int)):=by omega
 have hz3:(c:Int)<(n:Int)+(m:Int):=by omega
 have hbw:b<w.heap.size:=block_lt_of_cell (hcs 0 _ (dQ (by omega)));have hvw:vb<w.heap.size:=block_lt_of_cell (hvs 0 _ (dQ (by omega)));have hkk:(n:Int)+(m:Int)-(i:Int)=((n+m-i:Nat):Int):=by omega
 have hik:i+(n+m-i)=n+m:=by omega
 have hold:(Builtin.firstCells i0.size i (.slice (some ⟨b,off,none⟩) i c)).run Tryz.prog w.drew=.ok (cs.take (i*6)).toArray w.drew:=by
  rw[hzs];exact run_firstCells_some w.drew 6 i ⟨b,off,none⟩ i c (cs.take (i*6)) (by rw[tH];omega) (λj v hj=>by
   rw[Addr.add_lit];rw[tK]at hj;split at hj
   ·exact hcs j v hj
   ·cases hj)
 obtain⟨G,hG⟩:∃G,G=grownCap w (n+m) c 34:=⟨_,rfl⟩
 obtain⟨us,hus⟩:∃us,us=(Builtin.zeroCells (Value.agg zU.toArray).cells (n+m-i)).toList++(Builtin.zeroCells (Value.agg zU.toArray).cells (G-(n+m))).toList:=⟨_,rfl⟩
 have hul:(n+m-i)*6<=us.length:=by rw[hus,fN,w8];simp[Builtin.zeroCells,Value.cells,zU]
 obtain⟨W1,hW1⟩:∃W1,W1=w.drew.alloc (.cells (cs.take (i*6)++us).toArray 34):=⟨_,rfl⟩
 have hrz:∀ty,(Builtin.append_ #[26,3] ty #[.slice (some ⟨b,off,none⟩) i c,.int .i64 ((n:Int)+(m:Int)-(i:Int))]).run Tryz.prog w=.ok (.slice (some ⟨w.heap.size,0,none⟩) (n+m) G) W1:=λty=>by have h:=Lib.run_append_grow_zeros w 26 3 ty 34 i0 _ .i64 .i64 Tryz.underlying26 Tryz.underlying3 hi0 hz0 (some ⟨b,off,none⟩) i c (cs.take (i*6)) hold (n+m-i) (by omega) (by omega) (by omega) (by omega) (by rw[hzb];omega) (by rw[hzb,hik];exact growslice_fits hroom hbig);rw[hik]at h;rw[hkk,h,hW1,hus,hG];congr 3;simp
 have hRl:(n+m)*6<=(cs.take (i*6)++us).toArray.size:=by rw[List.size_toArray,fN,tH,hcl];omega
 have hN:∀j,j<(n+m)*6->(W1.cell? ⟨w.heap.size,j,none⟩).isSome=true:=λj hj=>by rw[hW1,World.cell?_alloc_at (w:=w.drew) _ _ w.heap.size j rfl,eR (by omega)];rfl
 have hNf:∀j,W1.frozen? ⟨w.heap.size,j,none⟩=false:=λj=>by rw[hW1];exact World.frozen?_alloc_at (w:=w.drew) _ _ w.heap.size j rfl
 have hOb:∀j v,w.cell? ⟨b,j,none⟩=some v->W1.cell? ⟨b,j,none⟩=some v:=λj v h=>by rw[hW1,World.cell?_alloc_past (w:=w.drew) _ b j hbw];exact h
 have hOv:∀j v,w.cell? ⟨vb,j,none⟩=some v->W1.cell? ⟨vb,j,none⟩=some v:=λj v h=>by rw[hW1,World.cell?_alloc_past (w:=w.drew) _ vb j hvw];exact h
 have hcpA:∀(ρ:World),(∀x,ρ.cell? x=W1.cell? x)->(∀x,ρ.frozen? x=W1.frozen? x)->∀ty dc,(Builtin.copy_ #[26,26] ty #[.slice (some ⟨w.heap.size,i*6,none⟩) (n+m-i) dc,.slice (some ⟨vb,voff,none⟩) m vc]).run Tryz.prog ρ=.ok (goInt m) (ρ.setCells w.heap.size (i*6) vs):=λρ hWc hWf ty dc=>
  H4 ρ _ _ ty 34 w.heap.size (i*6) (n+m-i) dc ⟨vb,voff,none⟩ m vc m vs Tryz.underlying26 hi0 (by simp only[Nat.min_def];split<;>omega) (by rw[hvl,hzs])
   (λj v hj=>by rw[Addr.add_lit,hWc];exact hOv _ v (hvs j v hj))
   (λj hj=>by rw[hvl]at hj;rw[hWc];exact hN _ (by omega)) (λj hj=>by rw[hWf];exact hNf _) h1v
 have hGn:n+m<=G:=by rw[hG];exact grownCap_ge w _ _ _
 have hG63:G<=9223372036854775807:=by have:=grownCap_le_maxLen w (n+m) c 34 (by unfold maxLen;omega);rw[<-hG]at this;unfold maxLen at this;omega
 have hGi:¬(G=i):=by omega
 have hGim:¬(G=i+m):=by omega
 have hci:¬(c=i):=by omega
 have hbN:b≠w.heap.size:=by omega
 have hdl:(cs.drop (i*6)).length=(n-i)*6:=by rw[oL,hcl,Nat.sub_mul]
 have hcpB:∀(ρ:World),(∀x,ρ.cell? x=(W1.setCells w.heap.size (i*6) vs).cell? x)->(∀x,ρ.frozen? x=(W1.setCells w.heap.size (i*6) vs).frozen? x)->∀ty dc sc,(Builtin.copy_ #[26,26] ty #[.slice (some ⟨w.heap.size,(i+m)*6,none⟩) (n+m-(i+m)) dc,.slice (some ⟨b,off+i*6,none⟩) (n-i) sc]).run Tryz.prog ρ=.ok (goInt ((n-i:Nat):Int)) (ρ.setCells w.heap.size ((i+m)*6) (cs.drop (i*6))):=λρ hWc hWf ty dc sc=>
  H4 ρ _ _ ty 34 w.heap.size ((i+m)*6) (n+m-(i+m)) dc ⟨b,off+i*6,none⟩ (n-i) sc (n-i) (cs.drop (i*6)) Tryz.underlying26 hi0 (by simp only[Nat.min_def];split<;>omega) (by rw[hdl,hzs])
   (λj v hj=>by rw[Addr.add_lit,hWc,World.cell?_setCells_out _ _ _ _ _ (λh _=>absurd h hbN),rA];exact hOb _ v (hcs (i*6+j) v (by rwa [y0]at hj)))
   (λj hj=>by rw[hdl]at hj;rw[hWc];exact World.isSome_setCells _ _ _ _ _ (hN _ (by omega)))
   (λj hj=>by rw[hWf,World.frozen?_setCells];exact hNf _) (λv hv=>h1c v (z9 hv))
 refine Calls.mono (R:=λe w'=>e=.returned (.slice (some ⟨w.heap.size,0,none⟩) (n+m) G)/\w'=(((w.alloc (.cells (cs.take (i*6)++us).toArray 34)).drew.setCells w.heap.size (i*6) vs).drew).setCells w.heap.size ((i+m)*6) (cs.drop (i*6))) ?_ (λe w' hh=>⟨G,us,hh.1,hGn,hul,hh.2⟩);have hW:RowKit.Hid (W1=w.drew.alloc (.cells (cs.take (i*6)++us).toArray 34)):=hW1;obtain⟨ROW,hROW⟩:∃ROW:Array Value,ROW=(cs.take (i*6)++us).toArray:=⟨_,rfl⟩
 rw[<-hROW]at hW1⊢;subst hW1;have hE1:∀x,((w.alloc (.cells ROW 34)).drew).cell? x=(w.drew.alloc (.cells ROW 34)).cell? x:=λx=>rfl
 have hE2:∀x,((w.alloc (.cells ROW 34)).drew).frozen? x=(w.drew.alloc (.cells ROW 34)).frozen? x:=λx=>rfl
 have hF1:∀x,(((w.alloc (.cells ROW 34)).drew.setCells w.heap.size (i*6) vs).drew).cell? x=((w.drew.alloc (.cells ROW 34)).setCells w.heap.size (i*6) vs).cell? x:=λx=>rfl
 have hF2:∀x,(((w.alloc (.cells ROW 34)).drew.setCells w.heap.size (i*6) vs).drew).frozen? x=((w.drew.alloc (.cells ROW 34)).setCells w.heap.size (i*6) vs).frozen? x:=λx=>rfl
 have hw1:IntKind.i64.wrap ((i:Int)+(m:Int))=(i:Int)+(m:Int):=by rw[IntKind.wrap_i64];omega
 have hb1:(0:Int)<=(i:Int)+(m:Int):=by omega
 have hin:i<=n:=by omega
 have htn:((i:Int)+(m:Int)).toNat=i+m:=by omega
 have hb3:(i:Int)<=(n:Int):=by omega
 clear hkk hik hold hROW hG hRl hus hul hN hNf hOb hOv hdl hcs hvs h1c h1v hcl hvl hW
 go_enter Tryz.func203,Tryz.ntmps203
 go_wp2_with (first
  |(at_builtin;refine Lib.wpList_append_run _ rfl _ _ _ _ rfl _ _ rfl rfl _ _ (hrz _) ?_)
  |(at_builtin;refine wpList_copy_runI _ rfl _ _ 26 26 rfl _ _ rfl rfl (hcpA _ hE1 hE2 _ _) ?_))
 go_region_law_o (refine step_copy_runI rfl _ _ 26 26 rfl (.slice (some ⟨w.heap.size,(i+m)*6,none⟩) (n+m-(i+m)) (G-(i+m))) (.slice (some ⟨b,off+i*6,none⟩) (n-i) (c-i)) (by simp[Act.eval,Act.put]) (by simp[Act.eval,Act.put]) (hcpB _ hF1 hF2 3 (G-(i+m)) (c-i)) ?_)
 go_wp2
 go_ret
 exact⟨rfl,rfl⟩
end
section
open Go Go.RowKit Go.Lib
theorem Lies.setIn{w:World}{b o:Nat}{vs:List Value}(h:∀j,j<vs.length->(w.cell? ⟨b,o+j,none⟩).isSome=true):Lies (w.setCells b o vs) b o vs:=λj v hj=>by have hlt:=(fO.1 hj).1;rw[World.cell?_setCells_in b vs o w h j hlt];exact(fO.1 hj).2▸rfl
theorem Lies.setOut{w:World}{b o o':Nat}{xs vs:List Value}(h:Lies w b o xs)(hd:o+xs.length<=o'\/o'+vs.length<=o):Lies (w.setCells b o' vs) b o xs:=λj v hj=>by have hlt:=(fO.1 hj).1;rw[World.cell?_setCells_out b vs o' w _ (λ_ _=>hd.elim (λhd=>.inl (by show o+j<o';omega)) (λhd=>.inr (by show o'+vs.length<=o+j;omega)))];exact h j v hj
theorem KeptB.alloc(b:Nat)(w:World)(ob:Obj):KeptB b w (w.alloc ob):=⟨λx hx _=>by rw[World.alloc,Array.getElem?_push_lt hx,eR hx],by rw[World.alloc,Array.size_push];exact Nat.le_succ _,⟨rfl,rfl⟩⟩
theorem LN(w:World)(ob:Obj):(w.alloc ob).heap.size=w.heap.size+1:=by rw[World.alloc,Array.size_push]
theorem MS(w:World)(N:Nat)(hN:N=w.heap.size)(cs:List Value)(T:TypeId):Lies (w.alloc (.cells cs.toArray T)) N 0 cs:=λj v hj=>by rw[World.cell?_alloc_at _ _ N (0+j) hN,oH,List.getElem?_toArray];exact hj
theorem YA{rows:List (List AV)}{u d:List AV}{i:Nat}(hi:i<=rows.length)(hn:(rows.length+1)*64<=140737488355328)(hr6:∀r∈rows,r.length=6):K4 Tryz.prog 203 6 rows [.i i,.sl 6 false [u] d] (rows.take i++[u]++rows.drop i):=by
 intro U vs vals base b o cap gl hlt hr hv h1 hl hc hor;obtain⟨y1,ys1,rfl,r1,r2⟩:=hr;obtain⟨y2,ys2,rfl,r3,r4⟩:=r2;simp only[RepL]at r4;subst r4;simp only[Rep]at r1;subst r1;obtain⟨vbase,vc,us,rfl,_,_,u1,u2,_,u3,_,u4,_⟩:=LW r3;rcases u4 with u4|⟨vb,voff,rfl,⟨z1,z2,z3⟩,u5⟩
 ·cases u4
 rcases u3 with u3|⟨u3,u6⟩
 ·cases u3
 simp only[vE,Nat.one_mul]at u6;have e1:rows.flatten=(rows.take i).flatten++(rows.drop i).flatten:=by rw[<-List.flatten_append,u9]
 rw[e1]at hv;obtain⟨xs,ys,rfl,v1,v2⟩:=HP hv;have lx:xs.length=i*6:=by rw[Bs v1,LM λr hr=>hr6 r (yI hr),tH];omega
 have ly:ys.length=(rows.length-i)*6:=by rw[Bs v2,LM λr hr=>hr6 r (z9 hr),oL]
 have t1:(xs++ys).take (i*6)=xs:=by rw[<-lx,List.take_left]
 have t2:(xs++ys).drop (i*6)=ys:=by rw[<-lx,List.drop_left]
 have o1:∀v∈xs++ys,v.oneCell'=true:=λv hv=>Ow (h1 v hv)
 have o2:∀v∈us,v.oneCell'=true:=λv hv=>Ow (u2 v hv)
 have hfl:(rows.take i++[u]++rows.drop i).flatten=(rows.take i).flatten++(([u]:List (List AV)).flatten++(rows.drop i).flatten):=by simp
 have hln:(rows.take i++[u]++rows.drop i).length=rows.length+1:=by rw[fN,fN,tH,oL,vE];omega
 have fin:∀(b' o' cap':Nat)(w':World),rows.length+1<=cap'->KeptB b U.w w'->(b'=b\/U.w.heap.size<=b')->b'<w'.heap.size->Lies w' b' o' (xs++(us++ys))->∃(b'' o'' cap'':Nat)(vals':List Value),(Ending.returned (.slice (some ⟨b',o',none⟩) (rows.length+1) cap'):Ending)=.returned (.slice (some ⟨b'',o'',none⟩) (rows.take i++[u]++rows.drop i).length cap'')/\(rows.take i++[u]++rows.drop i).length<=cap''/\KeptB b U.w w'/\(b''=b\/U.w.heap.size<=b'')/\b''<w'.heap.size/\Lies w' b'' o'' vals'/\RepL U (rows.take i++[u]++rows.drop i).flatten vals'/\∀x∈vals',Bw x=true:=λb' o' cap' w' q1 q2 q3 q4 q5=>
  ⟨b',o',cap',xs++(us++ys),by rw[hln],by rw[hln];exact q1,q2,q3,q4,q5,by rw[hfl];exact Ds v1 (Ds u1 v2),λx hx=>by
   rcases fU.1 hx with hx|hx
   ·exact h1 x (by simp[hx])
   ·rcases fU.1 hx with hx|hx
    ·exact u2 x hx
    ·exact h1 x (by simp[hx])⟩
 have nd:U.w.drew.heap.size=U.w.heap.size:=rfl;rcases hor with⟨rfl,hcap,hlies,hM,cs,T,hb,hsz⟩|⟨rfl,hbz⟩
 ·have hbl:b<U.w.heap.size:=hlt b (.inl hM);have hvb:vb≠b:=λe=>z1 (e▸hM)
  have hfb:∀j,U.w.frozen? ⟨b,j,none⟩=false:=λj=>by simp[World.frozen?,hb]
  have hsome:∀j,j<cap*6->(U.w.cell? ⟨b,o+j,none⟩).isSome=true:=λj hj=>by
   have e:U.w.cell? ⟨b,o+j,none⟩=cs[o+j]? :=by simp only[World.cell?,hb];rfl
   rw[e,eR (by omega)];rfl
  by_cases hroom:rows.length+1<=cap
  ·by_cases hin:i<rows.length
   ·have hsh:∃tA kA,U.w.shape? vb=some (tA,kA)/\kA≠0:=by
     have h0:=u5 0 _ (dQ (by omega));unfold World.cell? at h0;simp only[xS]at h0;split at h0
     ·rename_i c t f hc;refine⟨t,c.size,by unfold World.shape?;rw[hc],λe=>?_⟩;simp only[z7,yF,if_false]at h0;have:=(dY.1 h0).1;omega
     ·cases h0
    obtain⟨tA,kA,hsa,hkA⟩:=hsh;have hsb:U.w.shape? b=some (T,cs.size):=by unfold World.shape?;rw[hb]
    refine(XL b o rows.length cap i vb voff 1 vc (xs++ys) us U.w hin (by omega) hroom (by omega) hvb hl (by omega) hlies (λj hj=>hsome j (by omega)) (λj _=>hfb _) u5 o1 o2 tA T kA cs.size hsa hsb hkA hfb).mono ?_;rintro e w' ⟨rfl,rfl⟩;rw[t2];obtain⟨k1,s1⟩:=KeptB.cells b ys (o+(i+1)*6) U.w.drew;obtain⟨k2,s2⟩:=KeptB.cells b us (o+i*6) (U.w.drew.setCells b (o+(i+1)*6) ys);refine fin b o cap _ hroom (((KeptB.drew b U.w).trans k1).trans k2) (.inl rfl) (by rw[s2,s1];exact hbl) ?_;have hlx:Lies U.w.drew b o xs:=hlies.left;refine((hlx.setOut (.inl (by omega))).setOut (.inl (by omega))).app ?_;rw[lx];refine(Lies.setIn λj hj=>?_).app ?_
    ·refine World.isSome_setCells b _ _ U.w.drew _ ?_;rw[rA];exact hsome _ (by omega)
    ·rw[show o+i*6+us.length=o+(i+1)*6 by omega];refine(Lies.setIn λj hj=>?_).setOut (.inr (by omega));rw[rA];exact hsome _ (by omega)
   ·obtain rfl:i=rows.length:=by omega
    have hy:ys=[]:=xW.1 (by omega);subst hy;refine(UL b o rows.length cap vb voff 1 vc us U.w (by omega) hroom (by omega) (by omega) (λj hj=>by rw[rA];exact hsome _ (by omega)) (λj _=>hfb _) u5 o2).mono ?_;rintro e w' ⟨rfl,rfl⟩;obtain⟨k1,s1⟩:=KeptB.cells b us (o+rows.length*6) U.w;refine fin b o cap _ hroom k1 (.inl rfl) (by rw[s1];exact hbl) ?_;refine(hlies.left.setOut (.inl (by omega))).app ?_;rw[lx,nA];refine Lies.setIn λj hj=>?_
    rw[rA];exact hsome _ (by omega)
  ·have hnc:rows.length=cap:=by omega
   by_cases hin:i<rows.length
   ·refine(dM b o rows.length cap i vb voff 1 vc (xs++ys) us U.w hin (by omega) hc (by omega) hn hl (by omega) hlies u5 o1 o2).mono ?_;rintro e w' ⟨g,zs,rfl,hg,hz,rfl⟩;rw[t1,t2];obtain⟨k1,s1⟩:=KeptB.cells U.w.heap.size us (i*6) (U.w.alloc (.cells (xs++zs).toArray 34)).drew;obtain⟨k2,s2⟩:=KeptB.cells U.w.heap.size ys ((i+1)*6) ((U.w.alloc (.cells (xs++zs).toArray 34)).drew.setCells U.w.heap.size (i*6) us).drew;have k0:=KeptB.alloc b U.w (.cells (xs++zs).toArray 34);have sA:(U.w.alloc (.cells (xs++zs).toArray 34)).drew.heap.size=U.w.heap.size+1:=LN _ _;have s1':((U.w.alloc (.cells (xs++zs).toArray 34)).drew.setCells U.w.heap.size (i*6) us).drew.heap.size=U.w.heap.size+1:=s1.trans sA;have s2':=s2.trans s1';have cell:∀j,j<(xs++zs).length->((U.w.alloc (.cells (xs++zs).toArray 34)).drew.cell? ⟨U.w.heap.size,j,none⟩).isSome=true:=λj hj=>by show((U.w.alloc (.cells (xs++zs).toArray 34)).cell? ⟨U.w.heap.size,j,none⟩).isSome=true;rw[World.cell?_alloc_at _ _ _ j rfl,List.getElem?_toArray,dQ hj];rfl
    have lxz:(xs++zs).length=i*6+zs.length:=by rw[fN,lx]
    refine fin U.w.heap.size 0 g _ hg ⟨λx hx hne=>?_,by rw[s2'];omega,⟨k2.io.1.trans (k1.io.1.trans k0.io.1),k2.io.2.trans (k1.io.2.trans k0.io.2)⟩⟩ (.inr (eN _)) (by rw[s2'];omega) ?_
    ·rw[k2.heap x (by rw[s1'];omega) (by omega)];refine(k1.heap x (by rw[sA];omega) (by omega)).trans ?_;exact k0.heap x hx hne
    ·have hx0:Lies (U.w.alloc (.cells (xs++zs).toArray 34)).drew U.w.heap.size 0 xs:=by intro j v hj;show(U.w.alloc (.cells (xs++zs).toArray 34)).cell? ⟨U.w.heap.size,0+j,none⟩=some v;rw[World.cell?_alloc_at _ _ _ (0+j) rfl,oH,List.getElem?_toArray,tY (fO.1 hj).1];exact hj
     have hx1:Lies ((U.w.alloc (.cells (xs++zs).toArray 34)).drew.setCells U.w.heap.size (i*6) us).drew U.w.heap.size 0 xs:=hx0.setOut (.inl (by omega));have hu1:Lies ((U.w.alloc (.cells (xs++zs).toArray 34)).drew.setCells U.w.heap.size (i*6) us).drew U.w.heap.size (i*6) us:=Lies.setIn λj hj=>cell _ (by omega)
     refine(hx1.setOut (.inl (by omega))).app ?_;rw[lx,oH];refine(hu1.setOut (.inl (by omega))).app ?_;rw[show i*6+us.length=(i+1)*6 by omega];refine Lies.setIn λj hj=>?_
     exact World.isSome_setCells _ _ _ _ _ (cell _ (by omega))
   ·obtain rfl:i=rows.length:=by omega
    have hy:ys=[]:=xW.1 (by omega);subst hy;rw[nA]at hlies hl;refine(UM b o rows.length cap vb voff 1 vc xs us U.w (by omega) hc (by omega) hn hl (by omega) hlies u5).mono ?_;rintro e w' ⟨g,zs,rfl,hg,rfl⟩;refine fin U.w.heap.size 0 g _ hg ((KeptB.drew b U.w).trans (KeptB.alloc b U.w.drew _)) (.inr (eN _)) (by rw[LN];exact EJ _) ?_;rw[nA];exact(MS U.w.drew U.w.heap.size rfl (xs++us++zs) _).left
 ·have h0:rows=[]:=xW.1 (by omega);subst h0;have hi0:i=0:=by simpa using hi
  subst hi0;have hx0:xs=[]:=xW.1 (by omega);have hy0:ys=[]:=xW.1 (by rw[ly,t8]);subst hx0;subst hy0;refine(jS base vb voff 1 vc us U.w (by omega) hn (by omega) u5).mono ?_;rintro e w' ⟨g,zs,rfl,hg,rfl⟩;refine fin U.w.heap.size 0 g _ hg ((KeptB.drew b U.w).trans (KeptB.alloc b U.w.drew _)) (.inr (eN _)) (by rw[LN];exact EJ _) ?_;rw[nA,kN];exact(MS U.w.drew U.w.heap.size rfl (us++zs) _).left
end
section
open Go
attribute [local irreducible] Ax BO BB Bj BC Bk AY BD BK Cq
theorem ZY:Dh Tryz.prog 203:=⟨_,Tryz.func203,by kernel_rfl,by kernel_rfl⟩
theorem AcL:Dh Tryz.prog 204:=⟨_,Tryz.func204,by kernel_rfl,by kernel_rfl⟩
theorem OH{l:List Un}:∀r∈l.map Au,r.length=6/\AP r=true:=λr hr=>by obtain⟨x,_,rfl⟩:=oY.1 hr;exact⟨rfl,rfl⟩
theorem YU{l:List Un}{i:Int}{u:Un}{d:List AV}(h0:0<=i)(h1:i<=l.length)(h2:(l.length+1)*64<=140737488355328):K4 Tryz.prog 203 6 (l.map Au) [.i i,.sl 6 false [Au u] d] ((l.take i.toNat++[u]++l.drop i.toNat).map Au):=by have h:=YA (rows:=l.map Au) (u:=Au u) (d:=d) (i:=i.toNat) (by rw[mW];omega) (by rw[mW];exact h2) (λr hr=>(OH r hr).1);rw[show((i.toNat:Nat):Int)=i by omega]at h;rw[tI,tI,List.map_take,List.map_drop];exact h
theorem uF{l:List Un}{i:Int}(h0:0<=i)(h1:i<l.length)(h2:(l.length:Int)<=9223372036854775807):K4 Tryz.prog 204 6 (l.map Au) [.i i,.i (i+1)] ((l.take i.toNat++l.drop (i.toNat+1)).map Au):=by have h:=sZ (rows:=l.map Au) (i:=i.toNat) (by rw[mW];omega) (by rw[mW];omega) (λr hr=>(OH r hr).1);rw[show((i.toNat:Nat):Int)=i by omega,show((i.toNat+1:Nat):Int)=i+1 by omega]at h;rw[tI,List.map_take,List.map_drop];exact h
end
section
open Go
attribute [local irreducible] Ax BO BB Bj BC Bk AY BD BK Cq
attribute [local go_sem] Xc
def Dd(N:Nat)(f1315:List (Int×Int×Int×(List (Int×Int))×Int×Int)):Nat->Int->Option (Sum Unit Bool)|0,_=>none|n+1,ab=>bif decide (ab<(f1315.length:Int))then((A7 f1315 ab).bind λ(au,cy,cu,cr,cq,co)=>(B6 N au cy cu cr cq co).bind λdm=>gd ((decide (0<ab))=true->(Af (ab-1)))<|gd ((decide (0<ab))=true->(0<=ab-1/\ab-1<(f1315.length:Int)))<|bif (!dm)||((decide (0<ab))&&(decide (au<=(f1315.getD (ab-1).toNat (0,0,0,[],0,0)).1)))then(some (.inr false))else(gd (Af (ab+1))<|Dd N f1315 n (ab+1)))else(some (.inl ()))
def Eh(N:Nat):List ((Int×Int×Int×(List (Int×Int))×Int×Int)×(Int×Int×Int×(List (Int×Int))×Int×Int))->Option (Sum Unit Bool)|[]=>some (.inl ())|((bu,br,bq,bp,bo,bn),(bm,bl,bj,bi,bh,bg))::ys=>(Fy N bu br bq bp bo bn bm bl bj bi bh bg).bind λdl=>bif dl then(some (.inr false))else(Eh N ys)
def ER(N:Nat)(f1315:List (Int×Int×Int×(List (Int×Int))×Int×Int)):Option Bool:=bif decide (12<(f1315.length:Int))then(some false)else((Dd N f1315 N 0).bind λbb=>match bb with|.inl ()=>(gd (f1315.length<=1000000000)<|(Eh N (FI f1315)).bind λan=>match an with|.inl ()=>(some true)|.inr eh=>(some eh))|.inr ei=>(some ei))
@[go_sem] def s58(N:Nat):Spec:=p0<|pG<|pD Ak λf1315=>pE<|pE<|pF (ER N f1315) false λr=>.b r
theorem SG(N:Nat):AG Tryz.prog 58 (s58 N):=by
 refine Ar x58.ok<|Aw<|AM λf1315=>Ad<|Ad<|As λr h=>wx x58 (Ab (Pj N)<|Ab fG<|Ab (cS N)<|Aj) λ_ hS F=>?_
 dsimp only[x58,Ah,Ak];unfold ER at h;refine An hS F h (λ_ h=>?_) (λ_ h=>?_)
 ·exact Ai hS F h
 ·obtain⟨bb,fj,h⟩:=un h;refine go hS F ?_;refine Bz bb (λz:Nat=>⟨[(1,.box (0,1) 0),(2,.box (1,1) 0)],[(.c (1,1) 0,.b false),(.c (0,1) 0,Ap f1315)],z⟩) (λz=>(.inl ():Sum Unit Bool)) (.x 0) ?_ ?_
  ·refine Bp (λn (y:Int×Nat)=>Dd N f1315 n y.1) (λy=>⟨[(1,.box (0,1) 0),(2,.box (1,1) 0),(12,Ap f1315),(13,.i (f1315.length:Int)),(14,.i y.1)],[(.c (1,1) 0,.b false),(.c (0,1) 0,Ap f1315)],y.2⟩) (0,3) fj (Ch F) ?_;rintro n ⟨ab,dp⟩ ah;simp only[Dd]at ah;refine An hS F ah (λ_ ah=>?_) (λ_ ah=>?_)
   ·obtain⟨⟨au,cy,cu,cr,cq,co⟩,ee,ah⟩:=un ah;obtain⟨fh,F⟩:=Cb Au ee F;obtain⟨dm,d7,gg,gc,ah⟩:=un ah;replace F:=fc d7 F;refine An hS F ah (λ_ ah=>?_) (λ_ ah=>?_)
    ·obtain rfl:=yJ ah;exact Ai hS F h
    ·obtain⟨fo,ah⟩:=un ah;exact Cd hS F (n,ab+1,dp+1+1+1+1) ah
   ·exact B4 hS F (dp+1) ah
  ·rintro e8 rfl;obtain⟨fm,h⟩:=un h;obtain⟨an,gh,h⟩:=un h;refine go hS F ?_;refine Bz an (λz:Nat=>⟨[(2,.box (1,1) 0)],[(.c (1,1) 0,.b false)],z⟩) (λz=>(.inl ():Sum Unit Bool)) .n ?_ ?_
   ·refine Ac6 (λy:Nat×Nat=>([(.c (1,1) 0,.b false)],y.2)) (λy=>Eh N ((FI f1315).drop y.1)=some an/\y.1<=(FI f1315).length) (λy=>y.1) (0,e8+1) (ev F) (lE f1315 false (by assumption)) x123.ok ⟨rfl,rfl⟩ (by simp[x58,Ah]) (by intro a ha;obtain⟨y,_,rfl⟩:=oY.1 ha;exact⟨rfl,rfl⟩) ⟨gh,rB _⟩ rfl ?_ ?_ ?_
    ·exact Ch F
    ·rintro l ⟨n,bf⟩ ⟨aq,hle⟩ args fp;obtain⟨⟨⟨bu,br,bq,bp,bo,bn⟩,⟨bm,bl,bj,bi,bh,bg⟩⟩,eu,rfl,hlt⟩:=Tz fp;simp only[eu,Eh]at aq;clear fp eu;simp only[pU,Jd];obtain⟨dl,dz,aq⟩:=un aq;replace F:=fc dz F;refine An hS F aq (λ_ aq=>?_) (λ_ aq=>?_)
     ·obtain rfl:=yJ aq;exact Ai hS F h
     ·exact grg hS F (n+1,bf+1+1+1) aq
    ·rintro⟨n,bf⟩ ⟨aq,hle⟩ hk;rw[show n=_ from hk,W5]at aq;simp only[Eh]at aq;exact B4 hS F bf aq
   ·rintro fr rfl;exact Ai hS F h
def GP(N:Nat)(am:Int)(ba:Int)(az:Int)(ay:List (Int×Int))(aw:Int)(av:Int)(ak:Int):Option Int:=(F3 N am ak).bind λdh=>some dh
@[go_sem] def s86(N:Nat):Spec:=p0<|pG<|pI λam=>pI λba=>pI λaz=>pS Aq λay=>pI λaw=>pI λav=>pE<|pI λak=>pE<|pF (GP N am ba az ay aw av ak) 0 λr=>.i r
theorem Aca(N:Nat):AG Tryz.prog 86 (s86 N):=by
 refine Ar x86.ok<|Aw<|Aa λam=>Aa λba=>Aa λaz=>AF λay=>Aa λaw=>Aa λav=>Ad<|Aa λak=>Ad<|As λr h=>wx x86 (Ab (cI N)<|Aj) λ_ hS F=>?_
 dsimp only[x86,Ah,Aq];unfold GP at h;obtain⟨dh,dw,h⟩:=un h;exact Ai hS (fc dw F) h
def AW(N:Nat)(x1370:List (Int×Int×Int×(List (Int×Int))×Int×Int))(aa:Int):Nat->Int->Int->Option Int|0,_,_=>none|n+1,ae,af=>bif decide (ae<af)then(gd (Af (ae+af))<|(A7 x1370 (IntKind.wrap .i64 (CW .shr .u64 (IntKind.wrap .u64 (ae+af)) 1))).bind λ(cn,cm,ck,cj,ci,ce)=>(GP N cn cm ck cj ci ce aa).bind λdg=>bif decide (dg<0)then(gd (Af ((IntKind.wrap .i64 (CW .shr .u64 (IntKind.wrap .u64 (ae+af)) 1))+1))<|AW N x1370 aa n ((IntKind.wrap .i64 (CW .shr .u64 (IntKind.wrap .u64 (ae+af)) 1))+1) af)else(AW N x1370 aa n ae (IntKind.wrap .i64 (CW .shr .u64 (IntKind.wrap .u64 (ae+af)) 1))))else(some ae)
def A5(N:Nat)(x1370:List (Int×Int×Int×(List (Int×Int))×Int×Int))(aa:Int):Option (Int×Bool):=(AW N x1370 aa N 0 (x1370.length:Int)).bind λi1398=>gd ((decide (i1398<(x1370.length:Int)))=true->(0<=i1398/\i1398<(x1370.length:Int)))<|gd ((decide (i1398<(x1370.length:Int)))=true->((GP N ((x1370.getD i1398.toNat (0,0,0,[],0,0)).1) ((x1370.getD i1398.toNat (0,0,0,[],0,0)).2.1) ((x1370.getD i1398.toNat (0,0,0,[],0,0)).2.2.1) ((x1370.getD i1398.toNat (0,0,0,[],0,0)).2.2.2.1) ((x1370.getD i1398.toNat (0,0,0,[],0,0)).2.2.2.2.1) ((x1370.getD i1398.toNat (0,0,0,[],0,0)).2.2.2.2.2) aa).isSome=true))<|some (i1398,(decide (i1398<(x1370.length:Int)))&&(decide ((GP N ((x1370.getD i1398.toNat (0,0,0,[],0,0)).1) ((x1370.getD i1398.toNat (0,0,0,[],0,0)).2.1) ((x1370.getD i1398.toNat (0,0,0,[],0,0)).2.2.1) ((x1370.getD i1398.toNat (0,0,0,[],0,0)).2.2.2.1) ((x1370.getD i1398.toNat (0,0,0,[],0,0)).2.2.2.2.1) ((x1370.getD i1398.toNat (0,0,0,[],0,0)).2.2.2.2.2) aa).getD 0=0)))
@[go_sem] def sJ(N:Nat):Spec:=p0<|pD Ak λx1370=>pI λaa=>pL 86<|pE<|pE<|pF (A5 N x1370 aa) (0,false) λr=>.tup [.i r.1,.b r.2]
theorem Qa(N:Nat):AG Tryz.prog 85 (sJ N):=by
 refine Ar x85.ok<|AM λx1370=>Aa λaa=>Kn<|Ad<|Ad<|As λr h=>wx x85 (Ab (Aca N)<|Aj) λ_ hS F=>?_
 dsimp only[x85,Ah,Ak];unfold A5 at h;obtain⟨ej,fj,h⟩:=un h;refine go hS F ?_;refine Bz ej (λz:Int×Nat=>⟨[(0,Ap x1370),(1,.i aa),(2,.clo (.func 86) [] []),(8,.i (x1370.length:Int)),(9,.i z.1)],[],z.2⟩) (λz=>(z.1:Int)) (.x 0) ?_ ?_
 ·refine Bp (λn (y:Int×Int×Nat)=>AW N x1370 aa n y.1 y.2.1) (λy=>⟨[(0,Ap x1370),(1,.i aa),(2,.clo (.func 86) [] []),(8,.i (x1370.length:Int)),(9,.i y.1),(10,.i y.2.1)],[],y.2.2⟩) (0,(x1370.length:Int),3) fj (Ch F) ?_;rintro n ⟨ae,af,be⟩ ah;simp only[AW]at ah;refine An hS F ah (λ_ ah=>?_) (λ_ ah=>?_)
  ·obtain⟨gg,⟨cn,cm,ck,cj,ci,ce⟩,d9,ah⟩:=un ah;obtain⟨fg,F⟩:=Cb Au d9 F;obtain⟨dg,du,ah⟩:=un ah;replace F:=fc du F;refine An hS F ah (λ_ ah=>?_) (λ_ ah=>?_)
   ·obtain⟨gc,ah⟩:=un ah;exact Cd hS F (n,(IntKind.wrap .i64 (CW .shr .u64 (IntKind.wrap .u64 (ae+af)) 1))+1,af,be+1+1+1+1) ah
   ·exact Cd hS F (n,ae,IntKind.wrap .i64 (CW .shr .u64 (IntKind.wrap .u64 (ae+af)) 1),be+1+1+1+1) ah
  ·exact B4 hS F (ae,be+1) ah
 ·rintro⟨i1398,fq⟩ rfl;obtain⟨fo,fm,h⟩:=un h;by_cases hi:i1398<(x1370.length:Int)
  ·have hd:decide (i1398<(x1370.length:Int))=true:=aA hi;obtain⟨c,hc⟩:=yX (fm hd);have hq:=(Cb Au (Ou (0,0,0,[],0,0) (fo hd).1 hi) F).2.1;exact Ai hS (fc hc (fc hd (fc hq F))) h
  ·have hd:decide (i1398<(x1370.length:Int))=false:=aB hi;exact Ai hS (fc (bI Au hi) (fc hd F)) h
def Dk(N:Nat)(ai:List (Int×Int×Int×(List (Int×Int))×Int×Int))(aj:Int):Option ((Int×Int×Int×(List (Int×Int))×Int×Int)×Bool):=(ER N ai).bind λdb=>bif !db then(some ((0,0,0,[],0,0),false))else((A5 N ai aj).bind λ(da,cz)=>bif !cz then(some ((0,0,0,[],0,0),false))else((A7 ai da).bind λ(b9,b7,bz,x1410,bw,bv)=>gd (x1410≠[])<|gd ((x1410.length)*16<=140737488355328)<|some ((b9,b7,bz,x1410,bw,bv),true)))
@[go_sem] def s38(N:Nat):Spec:=p0<|pG<|pD Ak λai=>pE<|pI λaj=>pE<|pF (Dk N ai aj) ((0,0,0,[],0,0),false) λr=>.tup [.agg [.i r.1.1,.i r.1.2.1,.i r.1.2.2.1,BP r.1.2.2.2.1,.i r.1.2.2.2.2.1,.i r.1.2.2.2.2.2],.b r.2]
theorem Zz(N:Nat):AG Tryz.prog 38 (s38 N):=by
 refine Ar x38.ok<|Aw<|AM λai=>Ad<|Aa λaj=>Ad<|As λr h=>wx x38 (Ab (SG N)<|Ab (Qa N)<|Aj) λ_ hS F=>?_
 dsimp only[x38,Ah,Ak];unfold Dk at h;obtain⟨db,dt,h⟩:=un h;replace F:=fc dt F;refine An hS F h (λ_ h=>?_) (λ_ h=>?_)
 ·exact Ai hS F h
 ·obtain⟨⟨da,cz⟩,dq,h⟩:=un h;replace F:=fc dq F;refine An hS F h (λ_ h=>?_) (λ_ h=>?_)
  ·exact Ai hS F h
  ·obtain⟨⟨b9,b7,bz,x1410,bw,bv⟩,d8,h⟩:=un h;obtain⟨e9,F⟩:=Cb Au d8 F;refine go hS F ?_;refine GO hS 2 x87.hf x87.hc x87.hn x87.ok rfl (ev F) (ev F) ?_ rfl (ev F) (kM rfl) λhb=>?_
   ·exact Bl hS F
   dsimp only[x87,Ah];obtain⟨gj,h⟩:=un h;refine KR hS F ?_;obtain⟨gi,h⟩:=un h;exact Ai hS F h
end
open Go
def ik:Nat:=1600000
@[reducible] def Aiy(b:Nat)(m:Nm)(fl:List Bool)(la:Nat):AV:=.gd false (.agg [.v (.int .i64 b),.mp m,.sl 0 true (fl.map λx=>[.v (.bool x)]) [],.v (.int .i64 la)])
structure II(U:Cf)(b:Nat)(m:Nm)(fl:List Bool)(la:Nat):Prop where
 o:U.O b/\¬U.M b
 al:U.al m
 it:∃seen:Array Nat,U.w.heap[b]? =some (.mapIter (some (U.rb m)) fl.length seen fl.length)/\(∀i,seen.contains i=fl.getD i false)/\((∃x,x∈fl/\x=true)->∃s2:Array Nat,seen=s2.push la/\la<fl.length)
theorem II.mono{U σ':Cf}{b:Nat}{m:Nm}{fl:List Bool}{la:Nat}(h:II U b m fl la)(e:Evo U σ'):II σ' b m fl la:=by obtain⟨seen,h1,h2,h3⟩:=h.it;obtain⟨g1,g2⟩:=e.fro b _ h1 h.o.2;obtain⟨k1,k2⟩:=e.box m h.al;exact⟨⟨by rw[e.out];exact h.o.1,g2⟩,k1,seen,by rw[k2];exact g1,h2,h3⟩
def Ctx.mi(P:Program)(S:Tab)(nt hb N:Nat)(hnt:nt<=ik):Ctx:={P:=P,F:=Fence.wide,S:=S,nt:=nt,hb:=(hb,false),R:=EvoB N (λ_=>False),G:=λe U=>N<=U.w.heap.size/\∀b m fl la,lk e ik=Aiy b m fl la->N<=b/\II U b m fl la,ofE:=Evo.evoB,tr:=EvoB.trans,g:=λ{U σ' e e'} h ev hl=>⟨oJ h.1 ev.sz,λb m fl la hb=>by
  rcases hl ik hnt with h1|h1
  ·rw[h1]at hb;cases hb
  ·exact⟨(h.2 b m fl la (h1.symm.trans hb)).1,(h.2 b m fl la (h1.symm.trans hb)).2.mono ev⟩⟩}
theorem Adw{P:Program}{S:Tab}{nt hb N:Nat}{hnt:nt<=ik}:(Ctx.mi P S nt hb N hnt).S=S:=rfl
attribute [go_sem] Adw ik
section
variable{P:Program}{S:Tab}{nt hb N:Nat}{hnt:nt<=ik}{rid:Nat}{ops:List AOp}{Q:AE->St->Prop}{e e1:Az}{h h1:Hp}{c:Nat}{vc:Prop}{d:Option Nat}{x0:Opd}{m:Nm}{rows:List (List AV)}
end
mutual
theorem Sm{U Z:Cf}:∀(x:AV)(v v':Value),Rep U x v->Rep Z x v'->Rep {Z with al:=U.al} x v'
 |.v _,_,_,_,h=>by simpa[Rep]using h
 |.sl a b c d,_,_,_,h=>Rep.ofPure (U:=Z) (σ':={Z with al:=U.al}) (λb hb=>hb) (λ_ _=>rfl) (.sl a b c d) _ rfl h
 |.ro a b,_,_,_,h=>Rep.ofPure (U:=Z) (σ':={Z with al:=U.al}) (λb hb=>hb) (λ_ _=>rfl) (.ro a b) _ rfl h
 |.agg cs,_,_,k,h=>by simp only[Rep]at h k⊢;obtain⟨ys,k1,k2,k3⟩:=k;obtain⟨xs,h1,h2,h3⟩:=h;exact⟨xs,h1,h2,M3 cs ys xs k3 h3⟩
 |.tup cs,_,_,k,h=>by simp only[Rep]at h k⊢;obtain⟨ys,k1,k3⟩:=k;obtain⟨xs,h1,h3⟩:=h;exact⟨xs,h1,M3 cs ys xs k3 h3⟩
 |.clo f cs bs,_,_,k,h=>by simp only[Rep]at h k⊢;obtain⟨ys,zs,k1,k2,k3⟩:=k;obtain⟨xs,us,h1,h2,h3⟩:=h;exact⟨xs,us,h1,M3 cs ys xs k2 h2,M3 bs zs us k3 h3⟩
 |.box n o,_,_,k,h=>by simp only[Rep]at h k⊢;exact⟨k.1,h.2⟩
 |.own n l,_,_,k,h=>by simp only[Rep]at h k⊢;exact⟨k.1,h.2⟩
 |.elem _ _ _ _ _,_,_,k,h=>by simp only[Rep]at h k⊢;exact⟨k.1,h.2⟩
 |.mp _,_,_,k,h=>by simp only[Rep]at h k⊢;exact⟨k.1,h.2⟩
 |.gd b x,v,v',k,h=>by simp only[Rep]at h k⊢;exact⟨λhb=>Sm x v v' (k.1 hb) (h.1 hb),h.2⟩
 |.un,_,_,_,_=>by simp[Rep]
theorem M3{U Z:Cf}:∀(xs:List AV)(vs vs':List Value),RepL U xs vs->RepL Z xs vs'->RepL {Z with al:=U.al} xs vs'
 |[],_,_,_,h=>by simpa[RepL]using h
 |x::xs,_,_,k,h=>by simp only[RepL]at h k⊢;obtain⟨y,ys,_,k2,k3⟩:=k;obtain⟨z,zs,h1,h2,h3⟩:=h;exact⟨z,zs,h1,Sm x y z k2 h2,M3 xs ys zs k3 h3⟩
end
theorem Sn{U Z:Cf}{sz b:Nat}:∀{rows:List (List AV)}{o:Nat}{b' o':Nat},RepRows U sz b' o' rows->RepRows Z sz b o rows->RepRows {Z with al:=U.al} sz b o rows
 |[],_,_,_,_,_=>by simp[RepRows]
 |r::rs,o,b',o',k,h=>by simp only[RepRows]at h k⊢;refine⟨h.1,FQ λj c hc=>?_,Sn k.2.2 h.2.2⟩;obtain⟨y,k1,k2,k3⟩:=Hg k.2.1 j c hc;obtain⟨x,h1,h2,h3⟩:=Hg h.2.1 j c hc;exact⟨x,h1,h2,Sm c y x k3 h3⟩
theorem So{U Z:Cf}:∀{rows:List (List AV)}{es es':List MapEntry},RepEnts U rows es->RepEnts Z rows es'->RepEnts {Z with al:=U.al} rows es'
 |[],_,_,_,h=>h
 |r::rs,_,_,⟨e,es,k1,k2,k3⟩,⟨e',es',h1,h2,h3⟩=>⟨e',es',h1,M3 _ _ _ k2 h2,So k3 h3⟩
theorem HInv.fgt{U Z:Cf}{hp:Hp}(h:HInv U hp)(k:HInv Z hp):HInv {Z with al:=U.al} hp where
 ln:=k.ln
 cel n j c hc:=by
  obtain⟨h1,h2,h3⟩:=h.cel n j c hc;obtain⟨k1,k2,k3⟩:=k.cel n j c hc;refine⟨h1,k2,?_⟩;rcases k3 with⟨cs,T,x,g1,g2,g3,g4⟩|⟨rows,es,g1,g2,g3,g4,g5⟩
  ·refine .inl ⟨cs,T,x,g1,g2,g3,?_⟩;rcases h3 with⟨_,_,y,_,_,_,q4⟩|⟨rows,es,q1,_⟩
   ·exact Sm c y x q4 g4
   ·rw[q1.1]at g4⊢;simp only[Rep]at g4⊢;refine⟨λe=>?_,g4.2⟩;cases e
  ·refine .inr ⟨rows,es,g1,g2,g3,?_,g5⟩;rcases h3 with⟨_,_,y,_,_,q3,q4⟩|⟨rows',es',q1,_,_,q4,_⟩
   ·rw[g1.1]at q4;simp only[Rep]at q4;have:=q4.2 trivial;subst this;simp[undef,Bw]at q3
   ·have:=q1.1.symm.trans g1.1;simp only[AV.gd.injEq,AV.sl.injEq,true_and,and_true]at this;subst this;exact So q4 g4
 arr n sz live rows d hn:=by
  obtain⟨h1,h2,h3,h4⟩:=h.arr n sz live rows d hn;obtain⟨k1,k2,k3,k4⟩:=k.arr n sz live rows d hn;refine⟨h1,k2,k3,?_⟩;rcases k4 with⟨a,g1,g2⟩|⟨b,o,cap,g1,g2,g3,g4,g5,g6⟩
  ·exact .inl ⟨a,g1,g2⟩
  ·refine .inr ⟨b,o,cap,g1,g2,g3,?_,g5,λe=>g6 e⟩;rcases h4 with⟨_,_,rfl⟩|⟨b',o',_,_,_,_,q4,_⟩
   ·simp[RepRows]
   ·exact Sn q4 g4
 inj p q b hp hq:=k.inj p q b hp hq
 lt:=k.lt
 ou:=k.ou
 dis:=k.dis
def N8(l:List (Nat×Spec))(q:Nat->List AV->List AV->Option (Prop×AV)):Tab:=⟨J9 l,false,false,P6,T9,q,Pz,PB,PA⟩
theorem vH(l q):(N8 l q).f=J9 l:=rfl
theorem vI(l q):(N8 l q).w=false:=rfl
theorem vJ(l q):(N8 l q).m=false:=rfl
theorem vK(l q):(N8 l q).e=P6:=rfl
theorem vL(l q):(N8 l q).p=T9:=rfl
theorem vM(l q):(N8 l q).k=Pz:=rfl
theorem vN(l q):(N8 l q).o=PB:=rfl
theorem vO(l q):(N8 l q).y=PA:=rfl
theorem vP(l q):(N8 l q).q=q:=rfl
attribute [go_sem] vO vN vM vH vI vJ vK vL vP
