import Derived.Deep.MidRow
import Derived.Shelf.Spec.SlicesInsert
import Derived.Lib.AppendZerosOnto
import Derived.Test.YtjdchfljifacoaaGreatQ1
set_option linter.all false
set_option maxRecDepth 1000000
set_option maxHeartbeats 8000000
namespace Go.Proofs.YtjdchfljifacoaaGreat.Am
section
open Go Go.RowKit Go.Lib
theorem XK{P:Program}(w:World)(t e ty:TypeId)(z:Value)(ht:P.underlying t=some (.slice e))(hv:∀w,(zeroValue e).run P w=.ok z w)(b o n c:Nat)(hn:0<n)(zs:List Value)(hz:(Builtin.zeroCells z.cells n).toList=zs)(h1:∀v∈zs,v.oneCell'=true)(hc:∀j,j<zs.length->(w.cell? ⟨b,o+j,none⟩).isSome=true)(hf:∀j,j<zs.length->w.frozen? ⟨b,o+j,none⟩=false):(Builtin.clear_ #[t] ty #[.slice (some ⟨b,o,none⟩) n c]).run P w=.ok (.tuple #[]) (w.setCells b o zs):=by
 have hst:=run_storeCells_cells (P:=P) b o zs 0 w (by simpa using hc) (by simpa using hf) h1;simp only[Gt]at hst;obtain⟨m,rfl⟩:∃m,n=m+1:=⟨n-1,by omega⟩
 simp[Builtin.clear_,run_underlying ht,hv,hz,hst]
theorem Tl:∃j,Tryz.prog.info? 34=some j/\j.size=6:=Option.map_eq_some_iff.1 (show(Tryz.prog.info? 34).map (·.size)=some 6 by kernel_rfl)
def zU:List Value:=[.int .i64 0,.int .i64 0,.int .i64 0,.slice none 0 0,.int .i64 0,.int .i64 0]
theorem Acs(b o n c i j:Nat)(vals:List Value)(w:World)(hl:vals.length=n*6)(hij:i<j)(hj:j<=n)(hj1:RowKit.Hid (j=i+1))(hcap:n<=c)(hc63:n<=9223372036854775807)(hcs:∀j v,vals[j]? =some v->w.cell? ⟨b,o+j,none⟩=some v)(hfz:∀j,j<n*6->w.frozen? ⟨b,o+j,none⟩=false)(h1:∀v∈vals,v.oneCell'=true):Calls Tryz.prog 204 #[.slice (some ⟨b,o,none⟩) n c,.int .i64 i,.int .i64 j] w λe w'=>e=.returned (.slice (some ⟨b,o,none⟩) (i+(n-j)) c)/\w'=(w.drew.setCells b (o+i*6) (vals.drop (j*6))).setCells b (o+(i+(n-j))*6) zU:=by
 obtain⟨i0,hi0,hz1⟩:=Tl;have hjo:j=i+1:=hj1;obtain⟨news,hnews⟩:∃news,news=vals.drop (j*6):=⟨_,rfl⟩
 have hlen:news.length=(n-j)*6:=by rw[hnews,sG,hl,Nat.sub_mul]
 have hget:∀t v,news[t]? =some v->w.cell? ⟨b,o+j*6+t,none⟩=some v:=λt v h=>by rw[hnews,Iw]at h;rw[tC];exact hcs _ v h
 have hsome:∀j,j<n*6->(w.cell? ⟨b,o+j,none⟩).isSome=true:=λj hj=>by rw[hcs j _ (dO (by omega))];rfl
 obtain⟨A,hA,hsrc⟩:∃A:Addr,(if c=j then some (⟨b,o,none⟩:Addr)else some ⟨b,o+j*6,none⟩)=some A/\RowKit.Hid (∀t u,news[t]? =some u->w.drew.cell? (A.add t)=some u):=by
  by_cases h:c=j
  ·refine⟨⟨b,o,none⟩,by simp[h],λt u hu=>?_⟩;have h0:news.length=0:=by rw[hlen];omega
   rw[H8.1 h0]at hu;simp at hu
  ·exact⟨⟨b,o+j*6,none⟩,by simp[h],λt u hu=>by rw[Addr.add_lit];exact hget t u hu⟩
 have s1:RowKit.Hid (news.length=(n-j)*6):=hlen;have s2:RowKit.Hid (∀u∈news,u.oneCell'=true):=λu hu=>h1 u (by rw[hnews]at hu;exact List.mem_of_mem_drop hu)
 have s3:RowKit.Hid (∀t,t<news.length->(w.drew.cell? ⟨b,o+i*6+t,none⟩).isSome=true/\w.drew.frozen? ⟨b,o+i*6+t,none⟩=false):=by intro t ht;rw[hlen]at ht;rw[tC];exact⟨hsome _ (by omega),hfz _ (by omega)⟩
 obtain⟨W1,hW1⟩:∃W1,W1=w.drew.setCells b (o+i*6) news:=⟨_,rfl⟩
 have W1s:∀k,(w.cell? ⟨b,k,none⟩).isSome=true->(W1.cell? ⟨b,k,none⟩).isSome=true:=λk hk=>by rw[hW1];exact World.isSome_setCells b news (o+i*6) w.drew _ hk
 have W1f:∀k,W1.frozen? ⟨b,k,none⟩=w.frozen? ⟨b,k,none⟩:=λk=>by rw[hW1,World.frozen?_setCells];rfl
 have hcl:∀ty,(Builtin.clear_ #[26] ty #[.slice (some ⟨b,o+(i+(n-j))*6,none⟩) (n-(i+(n-j))) (c-(i+(n-j)))]).run Tryz.prog W1=.ok (.tuple #[]) (W1.setCells b (o+(i+(n-j))*6) zU):=by
  intro ty;rw[show n-(i+(n-j))=1 by omega];exact XK W1 _ _ ty _ Tryz.underlying26 Tryz.zeroValue34 b (o+(i+(n-j))*6) 1 _ (by omega) zU (by kernel_rfl) (by decide) (λk hk=>W1s _ (by
   have:k<6:=hk;rw[tC];exact hsome _ (by omega))) (λk hk=>by
   have:k<6:=hk;rw[W1f,tC];exact hfz _ (by omega))
 have hW:RowKit.Hid (W1=w.drew.setCells b (o+i*6) news):=hW1;have hN:RowKit.Hid (news=vals.drop (j*6)):=hnews;have hic:i<=c:=by omega
 have hin:i<=n:=by omega
 have hjc:j<=c:=by omega
 have hne:¬(i:Int)=(j:Int):=by omega
 have mixed:Tryz.prog.follows .mixedOrders=true:=by kernel_rfl
 clear hW1 W1s W1f hsome hget hcs hfz h1 hjo hnews hlen
 go_enter Tryz.func204,Tryz.ntmps204
 go_wp2_with fail
 go_region_law_o (refine step_append_room rfl (.tmp 22) (.tmp 25) 26 rfl 34 i0 6 Tryz.underlying26 hi0 hz1 b o i c (by simp[Act.eval,Act.put]) A (n-j) (c-j) news (by simp[Act.eval,Act.put]) s1.out hsrc.out s2.out (by omega) s3.out ?_;rw[<-hW.out])
 go_wp2
 go_ret
 rw[hW.out,hN.out];exact⟨rfl,rfl⟩
def Yz(w:World)(b o:Nat)(vs:List Value):Prop:=∀j v,vs[j]? =some v->w.cell? ⟨b,o+j,none⟩=some v
theorem Aev(b o n c i:Nat)(vals:List Value)(w:World)(hl:vals.length=n*6)(hi:i<n)(hcap:n<=c)(hc63:n<=9223372036854775807)(hcs:Yz w b o vals)(hfz:∀j,j<n*6->w.frozen? ⟨b,o+j,none⟩=false)(h1:∀v∈vals,v.oneCell'=true):Calls Tryz.prog 204 #[.slice (some ⟨b,o,none⟩) n c,.int .i64 i,.int .i64 ((i+1:Nat):Int)] w λe w'=>e=.returned (.slice (some ⟨b,o,none⟩) (n-1) c)/\KeptB b w w'/\w'.heap.size=w.heap.size/\Yz w' b o (vals.take (i*6)++vals.drop ((i+1)*6)):=by
 refine(Acs b o n c i (i+1) vals w hl (by omega) (by omega) rfl hcap hc63 hcs hfz h1).mono ?_;rintro e w' ⟨rfl,rfl⟩;have hn:i+(n-(i+1))=n-1:=by omega
 rw[hn];have hs:∀j,j<n*6->(w.cell? ⟨b,o+j,none⟩).isSome=true:=λj hj=>by rw[hcs j _ (dO (by omega))];rfl
 have hdl:(vals.drop ((i+1)*6)).length=(n-1-i)*6:=by rw[sG,hl];omega
 obtain⟨k1,z1⟩:=KeptB.cells b (vals.drop ((i+1)*6)) (o+i*6) w.drew;obtain⟨k2,z2⟩:=KeptB.cells b zU (o+(n-1)*6) (w.drew.setCells b (o+i*6) (vals.drop ((i+1)*6)));refine⟨rfl,((KeptB.drew b w).trans k1).trans k2,z2.trans z1,λj v hj=>?_⟩;have hj':=(jW.1 hj).1;rw[jT,tW,hdl]at hj';rw[World.cell?_setCells_out b zU _ _ _ (λ_ _=>.inl (by show o+j<o+(n-1)*6;omega))];by_cases hji:j<i*6
 ·rw[World.cell?_setCells_out b _ _ _ _ (λ_ _=>.inl (by show o+j<o+i*6;omega))];rw[xV (by rw[tW];omega),w5,dW hji]at hj;exact hcs j v hj
 ·rw[List.getElem?_append_right (by rw[tW];omega),tW,show min (i*6) vals.length=i*6 by omega]at hj;have hlt:=(jW.1 hj).1;have:=World.cell?_setCells_in b (vals.drop ((i+1)*6)) (o+i*6) w.drew (λt ht=>by rw[hdl]at ht;rw[tC];exact hs _ (by omega)) (j-i*6) hlt;rw[show o+i*6+(j-i*6)=o+j by omega]at this;rw[this];exact(jW.1 hj).2▸rfl
theorem Ow{v:Value}(h:Bw v=true):v.oneCell'=true:=by cases v<;>first|rfl|(simp[Bw]at h)
theorem LM{sz:Nat}:∀{rows:List (List AV)},(∀r∈rows,r.length=sz)->rows.flatten.length=rows.length*sz
 |[],_=>by simp
 |r::rows,h=>by rw[List.flatten_cons,jT,h r (by simp),LM λr hr=>h r (by simp[hr]),pV,FM,H7]
theorem sZ{rows:List (List AV)}{i:Nat}(hi:i<rows.length)(hn:rows.length<=9223372036854775807)(hr6:∀r∈rows,r.length=6):K4 Tryz.prog 204 6 rows [.i i,.i ((i+1:Nat):Int)] (rows.take i++rows.drop (i+1)):=by
 intro U vs vals base b o cap gl hlt hr hv h1 hl hc hor;simp only[RepL,Rep]at hr;obtain⟨_,_,rfl,rfl,_,_,rfl,rfl,rfl⟩:=hr;rcases hor with⟨rfl,hcap,hlies,hM,cs,T,hb,hsz⟩|⟨h0,_⟩
 ·refine(Aev b o rows.length cap i vals U.w hl hi hc hn hlies (λj _=>by simp[World.frozen?,hb]) (λv hv=>Ow (h1 v hv))).mono ?_;rintro e w' ⟨rfl,hk,hs,hcells⟩;have hbl:b<U.w.heap.size:=hlt b (.inl hM);have e1:rows.flatten=(rows.take i).flatten++(rows[i]++(rows.drop (i+1)).flatten):=by rw[<-List.flatten_cons,<-List.flatten_append,List.getElem_cons_drop,y9]
  rw[e1]at hv;obtain⟨xs,ys,rfl,v1,v2⟩:=HP hv;obtain⟨us,zs,rfl,v3,v4⟩:=HP v2;have lx:xs.length=i*6:=by rw[Bs v1,LM λr hr=>hr6 r (List.mem_of_mem_take hr),tW];omega
  have lu:us.length=6:=by rw[Bs v3];exact hr6 _ (List.getElem_mem hi)
  have t1:(xs++(us++zs)).take (i*6)=xs:=by rw[<-lx,List.take_left]
  have t2:(xs++(us++zs)).drop ((i+1)*6)=zs:=by rw[<-qZ,show(i+1)*6=(xs++us).length by rw[jT,lx,lu];omega,List.drop_left]
  rw[t1,t2]at hcells;refine⟨b,o,cap,xs++zs,?_,?_,hk,.inl rfl,by rw[hs];exact hbl,hcells,?_,λx hx=>h1 x ?_⟩
  ·congr 2;rw[jT,tW,sG];omega
  ·rw[jT,tW,sG];omega
  ·rw[List.flatten_append];exact Ds v1 v4
  ·rcases mU.1 hx with hx|hx
   ·simp[hx]
   ·simp[hx]
 ·omega
end
section
open Go Go.RowKit Go.Lib
theorem H4{P:Program}(w:World)(dT sT ty elem:TypeId){i:TypeInfo}(b o dLen dCap:Nat)(a:Addr)(sLen sCap n:Nat)(cs:List Value)(hu:P.underlying dT=some (.slice elem))(hi:P.info? elem=some i)(hn:Nat.min sLen dLen=n)(hl:cs.length=n*i.size)(hsrc:∀j v,cs[j]? =some v->w.cell? (a.add j)=some v)(hc:∀j,j<cs.length->(w.cell? ⟨b,o+j,none⟩).isSome=true)(hf:∀j,j<cs.length->w.frozen? ⟨b,o+j,none⟩=false)(h1:∀v∈cs,v.oneCell'=true):(Builtin.copy_ #[dT,sT] ty #[.slice (some ⟨b,o,none⟩) dLen dCap,.slice (some a) sLen sCap]).run P w=.ok (goInt n) (w.setCells b o cs):=by
 have hld:=run_loadCells_list (P:=P) w a cs hsrc;have hst:=run_storeCells_cells (P:=P) b o cs 0 w (by simpa using hc) (by simpa using hf) h1
 simp_all[Builtin.copy_,Builtin.lenOf,Builtin.firstCells,sizeOf,typeInfo,run_underlying]
theorem LG{P:Program}(w:World)(tS tR e:TypeId)(ht:P.underlying tS=some (.slice e))(size:Nat)(hz:∀w,(Go.sizeOf e).run P w=.ok size w)(a b:Addr)(la ca lb cb:Nat)(hne:a.block≠b.block)(tA tB:TypeId)(kA kB:Nat)(hsa:w.shape? a.block=some (tA,kA))(hsb:w.shape? b.block=some (tB,kB))(hkA:kA≠0)(hfb:w.frozen? b=false)(hfe:w.frozen? {block:=b.block,off:=kB}=false):(Extern.SlicesOverlaps.overlaps #[tS,tS] #[tR] #[.slice (some a) la ca,.slice (some b) lb cb]).run P w=.ok (.bool false) w:=by
 have hnb:=by simpa using hne
 have hnb':=by simpa using hne
 delta Extern.SlicesOverlaps.overlaps
 rw[show∀h1 h2,Extern.SlicesOverlaps.overlaps.match_4 (λ_=>Sem Value) #[.slice (some a) la ca,.slice (some b) lb cb] h1 h2=h1 (some a) la ca (some b) lb cb from λ_ _=>rfl];by_cases h0:la=0\/lb=0\/size=0
 ·simp[run_underlying ht,hz,h0]
 ·cases kA with
  |zero=>exact absurd rfl hkA
  |succ kA=>
   cases hfa:w.frozen? a<;>cases hfz:w.frozen? {block:=a.block,off:=kA+1}<;>
   simp[run_underlying ht,hz,hnb,noView,viewAt,mayBeOne,stringish,Sem.run,hsa,hsb,hfb,hfe]
theorem Lies.setIn{w:World}{b o:Nat}{vs:List Value}(h:∀j,j<vs.length->(w.cell? ⟨b,o+j,none⟩).isSome=true):Lies (w.setCells b o vs) b o vs:=λj v hj=>by have hlt:=(jW.1 hj).1;rw[World.cell?_setCells_in b vs o w h j hlt];grind
theorem Lies.setOut{w:World}{b o o':Nat}{xs vs:List Value}(h:Lies w b o xs)(hd:o+xs.length<=o'\/o'+vs.length<=o):Lies (w.setCells b o' vs) b o xs:=λj v hj=>by rw[World.cell?_setCells_out b vs o' w _ (by grind)];exact h j v hj
theorem KeptB.alloc(b:Nat)(w:World)(ob:Obj):KeptB b w (w.alloc ob):=⟨by grind[World.alloc],by rw[World.alloc,Array.size_push];exact Nat.le_succ _,⟨rfl,rfl⟩⟩
theorem LN(w:World)(ob:Obj):(w.alloc ob).heap.size=w.heap.size+1:=by rw[World.alloc,Array.size_push]
theorem MS(w:World)(N:Nat)(hN:N=w.heap.size)(cs:List Value)(T:TypeId):Lies (w.alloc (.cells cs.toArray T)) N 0 cs:=λj v hj=>by rw[World.cell?_alloc_at _ _ N (0+j) hN,rB,List.getElem?_toArray];exact hj
def zM:List Value:=[.int .i64 0,.int .i64 0,.int .i64 0,.int .i64 0,.bool false]
inductive InsK:Nat->Nat->Nat->Nat->Nat->Nat->List Value->Prop
 |u:InsK 203 26 34 211 6 64 zU
 |m:InsK 168 29 36 194 5 40 zM
section
variable{F S α O z B:Nat}{τ:List Value}(K:InsK F S α O z B τ)
include K
theorem om{p:Prop}(h:InsK F S α O z B τ->p:=by intro k;cases k<;>omega):p:=h K
theorem AjT:Tryz.prog.underlying S=some (.slice α):=by
 cases K
 ·exact Tryz.underlying26
 ·exact Tryz.underlying29
theorem Akk:∃j,Tryz.prog.info? α=some j/\j.zero=some (.agg τ.toArray)/\j.size=z/\j.bytes=B:=by
 have h:(Tryz.prog.info? α).map (λi=>(i.zero,i.size,i.bytes))=some (some (.agg τ.toArray),z,B):=by cases K<;>kernel_rfl
 obtain⟨i,hi,h2⟩:=Option.map_eq_some_iff.1 h;simp only[KW]at h2;exact⟨i,hi,h2⟩
theorem iov{w:World}{vb voff b x m vc lb cb:Nat}(hvb:vb≠b)(tA tB:TypeId)(kA kB:Nat)(hsa:w.shape? vb=some (tA,kA))(hsb:w.shape? b=some (tB,kB))(hkA:kA≠0)(hfb:∀j,w.frozen? ⟨b,j,none⟩=false):(callFunc O #[.slice (some ⟨vb,voff,none⟩) m vc,.slice (some ⟨b,x,none⟩) lb cb]).run Tryz.prog w=.ok (.value (.bool false)) w:=by
 cases K
 ·rw[run_callFunc_extern Tryz.func211 (by kernel_rfl) (by kernel_rfl) (by kernel_rfl) (e:=Extern.SlicesOverlaps.overlaps #[26,26] #[4]) (by kernel_rfl),LG w _ _ _ Tryz.underlying26 6 Tryz.sizeOf34 _ _ m vc lb cb hvb tA tB kA kB hsa hsb hkA (hfb _) (hfb _)];rfl
 ·rw[run_callFunc_extern Tryz.func194 (by kernel_rfl) (by kernel_rfl) (by kernel_rfl) (e:=Extern.SlicesOverlaps.overlaps #[29,29] #[4]) (by kernel_rfl),LG w _ _ _ Tryz.underlying29 5 Tryz.sizeOf36 _ _ m vc lb cb hvb tA tB kA kB hsa hsb hkA (hfb _) (hfb _)];rfl
theorem AkW(b off n c i vb voff m vc:Nat)(cs vs:List Value)(w:World)(hi:i<n)(hm:0<m)(hroom:n+m<=c)(hc63:n+m<=9223372036854775807)(hvb:vb≠b)(hcl:cs.length=n*z)(hvl:vs.length=m*z)(hcs:∀j v,cs[j]? =some v->w.cell? ⟨b,off+j,none⟩=some v)(hsp:∀j,j<(n+m)*z->(w.cell? ⟨b,off+j,none⟩).isSome=true)(hfz:∀j,j<(n+m)*z->w.frozen? ⟨b,off+j,none⟩=false)(hvs:∀j v,vs[j]? =some v->w.cell? ⟨vb,voff+j,none⟩=some v)(h1c:∀v∈cs,v.oneCell'=true)(h1v:∀v∈vs,v.oneCell'=true)(tA tB:TypeId)(kA kB:Nat)(hsa:w.shape? vb=some (tA,kA))(hsb:w.shape? b=some (tB,kB))(hkA:kA≠0)(hfb:∀j,w.frozen? ⟨b,j,none⟩=false):Calls Tryz.prog F #[.slice (some ⟨b,off,none⟩) n c,.int .i64 i,.slice (some ⟨vb,voff,none⟩) m vc] w λe w'=>e=.returned (.slice (some ⟨b,off,none⟩) (n+m) c)/\w'=(w.drew.setCells b (off+(i+m)*z) (cs.drop (i*z))).setCells b (off+i*z) vs:=by
 obtain⟨i0,hi0,-,hzs,-⟩:=Akk K;have hz1:¬((m:Int)=0):=om K;have hz2:¬((i:Int)=(n:Int)):=om K;have hov:∀lb cb,(callFunc O #[.slice (some ⟨vb,voff,none⟩) m vc,.slice (some ⟨b,off+(i+m)*z,none⟩) lb cb]).run Tryz.prog w=.ok (.value (.bool false)) w:=λlb cb=>iov K hvb tA tB kA kB hsa hsb hkA hfb
 have hdl:(cs.drop (i*z)).length=(n-i)*i0.size:=by rw[sG,hcl,hzs,Nat.sub_mul]
 have hdl6:(cs.drop (i*z)).length=(n-i)*z:=by rw[hdl,hzs]
 have mixed:Tryz.prog.follows .mixedOrders=true:=by kernel_rfl
 have hw1:IntKind.i64.wrap ((i:Int)+(m:Int))=(i:Int)+(m:Int):=by rw[IntKind.wrap_i64];exact om K
 have hb1:(0:Int)<=(i:Int)+(m:Int):=om K;have hin:i<=n:=om K;have htn:((i:Int)+(m:Int)).toNat=i+m:=om K;have hb2:¬(c=i+m):=om K;have hb3:(i:Int)<=(n:Int)+(m:Int):=om K;have hb4:¬(c=i):=om K;have hcp1:∀ty dc sc,(Builtin.copy_ #[S,S] ty #[.slice (some ⟨b,off+(i+m)*z,none⟩) (n+m-(i+m)) dc,.slice (some ⟨b,off+i*z,none⟩) (n+m-i) sc]).run Tryz.prog w.drew=.ok (goInt ((n-i:Nat):Int)) (w.drew.setCells b (off+(i+m)*z) (cs.drop (i*z))):=λty dc sc=>
  H4 w.drew _ _ ty α b (off+(i+m)*z) (n+m-(i+m)) dc ⟨b,off+i*z,none⟩ (n+m-i) sc (n-i) (cs.drop (i*z)) (AjT K) hi0 (by simp only[Nat.min_def];split<;>exact om K) hdl
   (λj v hj=>by rw[Addr.add_lit,tC];exact hcs (i*z+j) v (by rwa [Iw]at hj))
   (λj hj=>by rw[hdl6]at hj;rw[tC];exact hsp _ (om K)) (λj hj=>by rw[hdl6]at hj;rw[tC];exact hfz _ (om K)) (λv hv=>h1c v (List.mem_of_mem_drop hv))
 obtain⟨W1,hW1⟩:∃W1,W1=w.drew.setCells b (off+(i+m)*z) (cs.drop (i*z)):=⟨_,rfl⟩
 have hsp1:∀k,k<(n+m)*z->(W1.cell? ⟨b,off+k,none⟩).isSome=true:=λk hk=>by rw[hW1];exact World.isSome_setCells b _ _ w.drew _ (hsp k hk)
 have hcp2:∀(ρ:World),(∀x,ρ.cell? x=W1.cell? x)->(∀x,ρ.frozen? x=W1.frozen? x)->∀ty dc,(Builtin.copy_ #[S,S] ty #[.slice (some ⟨b,off+i*z,none⟩) (n+m-i) dc,.slice (some ⟨vb,voff,none⟩) m vc]).run Tryz.prog ρ=.ok (goInt m) (ρ.setCells b (off+i*z) vs):=λρ hWc hWf ty dc=>
  H4 ρ _ _ ty α b (off+i*z) (n+m-i) dc ⟨vb,voff,none⟩ m vc m vs (AjT K) hi0 (by simp only[Nat.min_def];split<;>exact om K) (by rw[hvl,hzs])
   (λj v hj=>by rw[Addr.add_lit,hWc,hW1,World.cell?_setCells_out b _ _ _ _ (λh _=>absurd h hvb)];exact hvs j v hj)
   (λj hj=>by rw[hvl]at hj;rw[hWc,tC];exact hsp1 _ (om K)) (λj hj=>by rw[hvl]at hj;rw[hWf,hW1,World.frozen?_setCells,tC];exact hfz _ (om K)) h1v
 rw[<-hW1]at hcp1;clear hsp1 hcs hsp hfz hvs h1c h1v hdl hdl6 hcl hvl;cases K
 case' m=>go_enter Tryz.func168,Tryz.ntmps168
 case' u=>go_enter Tryz.func203,Tryz.ntmps203
 all_goals
  go_wp2_with (simp only[hov])
  go_region_law_o (refine step_copy_runI rfl _ _ _ _ rfl _ _ (by simp[Act.eval,Act.put]) (by simp[Act.eval,Act.put]) (hcp1 _ _ _) ?_)
  go_wp2_with (at_builtin;refine wpList_copy_runI _ rfl _ _ _ _ rfl _ _ rfl rfl (hcp2 _ (λ_=>rfl) (λ_=>rfl) _ _) ?_)
  go_ret
  first|exact⟨rfl,rfl⟩|exact⟨rfl,by rw[hW1]⟩
theorem AkA(b off n c vb voff m vc:Nat)(vs:List Value)(w:World)(hm:0<m)(hroom:n+m<=c)(hc63:n+m<=9223372036854775807)(hvl:vs.length=m*z)(hsp:∀j,j<m*z->(w.cell? ⟨b,off+n*z+j,none⟩).isSome=true)(hfz:∀j,j<m*z->w.frozen? ⟨b,off+n*z+j,none⟩=false)(hvs:∀j v,vs[j]? =some v->w.cell? ⟨vb,voff+j,none⟩=some v)(h1v:∀v∈vs,v.oneCell'=true):Calls Tryz.prog F #[.slice (some ⟨b,off,none⟩) n c,.int .i64 n,.slice (some ⟨vb,voff,none⟩) m vc] w λe w'=>e=.returned (.slice (some ⟨b,off,none⟩) (n+m) c)/\w'=w.setCells b (off+n*z) vs:=by
 obtain⟨i0,hi0,-,hzs,-⟩:=Akk K;have hz1:¬((m:Int)=0):=om K;have mixed:Tryz.prog.follows .mixedOrders=true:=by kernel_rfl
 have hrun:∀ty,(Builtin.append_ #[S,S] ty #[.slice (some ⟨b,off,none⟩) n c,.slice (some ⟨vb,voff,none⟩) m vc]).run Tryz.prog w=.ok (.slice (some ⟨b,off,none⟩) (n+m) c) (w.setCells b (off+n*z) vs):=λty=>by have:=run_append_room_cells (P:=Tryz.prog) w S ty α i0 (AjT K) hi0 b off n c ⟨vb,voff,none⟩ m vc vs (by rw[hvl,hzs]) (λj u hj=>by rw[Addr.add_lit];exact hvs j u hj) h1v hroom (λj hj=>by rw[hzs];exact hsp j (om K)) (λj hj=>by rw[hzs];exact hfz j (om K));rw[hzs]at this;exact this
 clear hsp hfz hvs h1v hvl;cases K
 case' m=>go_enter Tryz.func168,Tryz.ntmps168
 case' u=>go_enter Tryz.func203,Tryz.ntmps203
 all_goals
  go_wp2_with (at_builtin;refine Lib.wpList_append_run _ rfl _ _ _ _ rfl _ _ rfl rfl _ _ (hrun _) ?_)
  go_ret
  exact⟨rfl,rfl⟩
theorem AkB(b off n c vb voff m vc:Nat)(cs vs:List Value)(w:World)(hm:0<m)(hnc:n<=c)(hroom:c<n+m)(hbig:(n+m)*B<=140737488355328)(hcl:cs.length=n*z)(hvl:vs.length=m*z)(hcs:Lies w b off cs)(hvs:Lies w vb voff vs):Calls Tryz.prog F #[.slice (some ⟨b,off,none⟩) n c,.int .i64 n,.slice (some ⟨vb,voff,none⟩) m vc] w λe w'=>∃g us,e=.returned (.slice (some ⟨w.heap.size,0,none⟩) (n+m) g)/\n+m<=g/\w'=w.drew.alloc (.cells (cs++vs++us).toArray α):=by
 obtain⟨i0,hi0,hz0,hzs,hzb⟩:=Akk K;have hz1:¬((m:Int)=0):=om K;have mixed:Tryz.prog.follows .mixedOrders=true:=by kernel_rfl
 obtain⟨g,hg⟩:∃g,g=grownCap w (n+m) c α:=⟨_,rfl⟩
 obtain⟨W1,hW1⟩:∃W1,W1=w.drew.alloc (.cells (cs.toArray++vs.toArray++Builtin.zeroCells (Value.agg τ.toArray).cells (g-(n+m))) α):=⟨_,rfl⟩
 have hrun:∀ty,(Builtin.append_ #[S,S] ty #[.slice (some ⟨b,off,none⟩) n c,.slice (some ⟨vb,voff,none⟩) m vc]).run Tryz.prog w=.ok (.slice (some ⟨w.heap.size,0,none⟩) (n+m) g) W1:=λty=>by have:=Hh (P:=Tryz.prog) (w:=w) S ty α i0 _ (AjT K) hi0 hz0 (.inr ⟨b,off,rfl,hcs⟩) (.inr ⟨vb,voff,rfl,hvs⟩) n m c vc (by rw[hcl,hzs]) (by rw[hvl,hzs]) hroom (by rw[hzb];exact hbig) (by rw[hzb];cases K<;>decide);rw[this,hW1,hg]
 have hge:n+m<=g:=by rw[hg];exact grownCap_ge w _ _ _
 have hW:RowKit.Hid (W1=w.drew.alloc (.cells (cs.toArray++vs.toArray++Builtin.zeroCells (Value.agg τ.toArray).cells (g-(n+m))) α)):=hW1;clear hcs hvs hvl hcl hW1 hg;refine Calls.mono (R:=λe w'=>e=.returned (.slice (some ⟨w.heap.size,0,none⟩) (n+m) g)/\w'=W1) ?_ ?_
 ·cases K
  case' m=>go_enter Tryz.func168,Tryz.ntmps168
  case' u=>go_enter Tryz.func203,Tryz.ntmps203
  all_goals
   go_wp2_with (at_builtin;refine Lib.wpList_append_run _ rfl _ _ _ _ rfl _ _ rfl rfl _ _ (hrun _) ?_)
   all_goals (go_ret;exact⟨rfl,rfl⟩)
 ·rintro e w' ⟨rfl,rfl⟩;exact⟨g,(Builtin.zeroCells (Value.agg τ.toArray).cells (g-(n+m))).toList,rfl,hge,by rw[hW.out];congr 2;apply Array.ext';simp⟩
theorem Alm(sb:Option Addr)(vb voff m vc:Nat)(vs:List Value)(w:World)(hm:0<m)(hbig:m*B<=140737488355328)(hvl:vs.length=m*z)(hvs:Lies w vb voff vs):Calls Tryz.prog F #[.slice sb 0 0,.int .i64 0,.slice (some ⟨vb,voff,none⟩) m vc] w λe w'=>∃g us,e=.returned (.slice (some ⟨w.heap.size,0,none⟩) m g)/\m<=g/\w'=w.drew.alloc (.cells (vs++us).toArray α):=by
 obtain⟨i0,hi0,hz0,hzs,hzb⟩:=Akk K;have hz1:¬((m:Int)=0):=om K;have mixed:Tryz.prog.follows .mixedOrders=true:=by kernel_rfl
 obtain⟨g,hg⟩:∃g,g=grownCap w (0+m) 0 α:=⟨_,rfl⟩
 obtain⟨W1,hW1⟩:∃W1,W1=w.drew.alloc (.cells (([]:List Value).toArray++vs.toArray++Builtin.zeroCells (Value.agg τ.toArray).cells (g-(0+m))) α):=⟨_,rfl⟩
 have hrun:∀ty,(Builtin.append_ #[S,S] ty #[.slice sb 0 0,.slice (some ⟨vb,voff,none⟩) m vc]).run Tryz.prog w=.ok (.slice (some ⟨w.heap.size,0,none⟩) m g) W1:=λty=>by have:=Hh (P:=Tryz.prog) (w:=w) S ty α i0 _ (AjT K) hi0 hz0 (sb:=sb) (olds:=[]) (.inl rfl) (.inr ⟨vb,voff,rfl,hvs⟩) 0 m 0 vc (by simp) (by rw[hvl,hzs]) (om K) (by rw[hzb,rB];exact hbig) (by rw[hzb];cases K<;>decide);rw[this,hW1,hg,rB]
 have hge:m<=g:=by rw[hg];exact rC (om K) (grownCap_ge w (0+m) 0 _)
 have hW:RowKit.Hid (W1=w.drew.alloc (.cells (([]:List Value).toArray++vs.toArray++Builtin.zeroCells (Value.agg τ.toArray).cells (g-(0+m))) α)):=hW1;clear hvs hvl hW1 hg;refine Calls.mono (R:=λe w'=>e=.returned (.slice (some ⟨w.heap.size,0,none⟩) m g)/\w'=W1) ?_ ?_
 ·rcases sb with _|a
  ·cases K
   case' m=>go_enter Tryz.func168,Tryz.ntmps168
   case' u=>go_enter Tryz.func203,Tryz.ntmps203
   all_goals
    go_wp2_with (at_builtin;refine Lib.wpList_append_run _ rfl _ _ _ _ rfl _ _ rfl rfl _ _ (hrun _) ?_)
    all_goals (go_ret;exact⟨rfl,rfl⟩)
  ·cases K
   case' m=>go_enter Tryz.func168,Tryz.ntmps168
   case' u=>go_enter Tryz.func203,Tryz.ntmps203
   all_goals
    go_wp2_with (at_builtin;refine Lib.wpList_append_run _ rfl _ _ _ _ rfl _ _ rfl rfl _ _ (hrun _) ?_)
    all_goals (go_ret;exact⟨rfl,rfl⟩)
 ·rintro e w' ⟨rfl,rfl⟩;exact⟨g,(Builtin.zeroCells (Value.agg τ.toArray).cells (g-(0+m))).toList,rfl,hge,by rw[hW.out];congr 2;apply Array.ext';simp⟩
theorem Ali(b off n c i vb voff m vc:Nat)(cs vs:List Value)(w:World)(hi:i<n)(hm:0<m)(hnc:n<=c)(hroom:c<n+m)(hbig:(n+m)*B<=140737488355328)(hcl:cs.length=n*z)(hvl:vs.length=m*z)(hcs:Lies w b off cs)(hvs:Lies w vb voff vs)(h1c:∀v∈cs,v.oneCell'=true)(h1v:∀v∈vs,v.oneCell'=true):Calls Tryz.prog F #[.slice (some ⟨b,off,none⟩) n c,.int .i64 i,.slice (some ⟨vb,voff,none⟩) m vc] w λe w'=>∃(g:Nat)(us:List Value),e=.returned (.slice (some ⟨w.heap.size,0,none⟩) (n+m) g)/\n+m<=g/\(n+m-i)*z<=us.length/\w'=(((w.alloc (.cells (cs.take (i*z)++us).toArray α)).drew.setCells w.heap.size (i*z) vs).drew).setCells w.heap.size ((i+m)*z) (cs.drop (i*z)):=by
 have mixed:Tryz.prog.follows .mixedOrders=true:=by kernel_rfl
 obtain⟨i0,hi0,hz0,hzs,hzb⟩:=Akk K;have hz1:¬((m:Int)=0):=om K;have hz2:¬((i:Int)=(n:Int)):=om K;have hz3:(c:Int)<(n:Int)+(m:Int):=om K;have hbw:b<w.heap.size:=block_lt_of_cell (hcs 0 _ (dO (om K)));have hvw:vb<w.heap.size:=block_lt_of_cell (hvs 0 _ (dO (om K)));have hkk:(n:Int)+(m:Int)-(i:Int)=((n+m-i:Nat):Int):=om K;have hik:i+(n+m-i)=n+m:=om K;have hold:(Builtin.firstCells i0.size i (.slice (some ⟨b,off,none⟩) i c)).run Tryz.prog w.drew=.ok (cs.take (i*z)).toArray w.drew:=by
  rw[hzs];exact run_firstCells_some w.drew z i ⟨b,off,none⟩ i c (cs.take (i*z)) (by rw[tW];exact om K) (λj v hj=>by
   rw[Addr.add_lit];rw[w5]at hj;split at hj
   ·exact hcs j v hj
   ·cases hj)
 obtain⟨G,hG⟩:∃G,G=grownCap w (n+m) c α:=⟨_,rfl⟩
 obtain⟨us,hus⟩:∃us,us=(Builtin.zeroCells (Value.agg τ.toArray).cells (n+m-i)).toList++(Builtin.zeroCells (Value.agg τ.toArray).cells (G-(n+m))).toList:=⟨_,rfl⟩
 have hul:(n+m-i)*z<=us.length:=by rw[hus,jT,Array.length_toList];cases K<;>simp[Builtin.zeroCells,Value.cells,zU,zM]
 obtain⟨W1,hW1⟩:∃W1,W1=w.drew.alloc (.cells (cs.take (i*z)++us).toArray α):=⟨_,rfl⟩
 have hrz:∀ty,(Builtin.append_ #[S,3] ty #[.slice (some ⟨b,off,none⟩) i c,.int .i64 ((n:Int)+(m:Int)-(i:Int))]).run Tryz.prog w=.ok (.slice (some ⟨w.heap.size,0,none⟩) (n+m) G) W1:=λty=>by have h:=Lib.run_append_grow_zeros w S 3 ty α i0 _ .i64 .i64 (AjT K) Tryz.underlying3 hi0 hz0 (some ⟨b,off,none⟩) i c (cs.take (i*z)) hold (n+m-i) (om K) (om K) (om K) (om K) (by rw[hzb];exact om K) (by rw[hzb,hik];exact growslice_fits hroom hbig);rw[hik]at h;rw[hkk,h,hW1,hus,hG];congr 3;simp
 have hRl:(n+m)*z<=(cs.take (i*z)++us).toArray.size:=by rw[List.size_toArray,jT,tW,hcl];exact om K
 have hN:∀j,j<(n+m)*z->(W1.cell? ⟨w.heap.size,j,none⟩).isSome=true:=λj hj=>by rw[hW1,World.cell?_alloc_at (w:=w.drew) _ _ w.heap.size j rfl,iW (om K)];rfl
 have hNf:∀j,W1.frozen? ⟨w.heap.size,j,none⟩=false:=λj=>by rw[hW1];exact World.frozen?_alloc_at (w:=w.drew) _ _ w.heap.size j rfl
 have hOb:∀j v,w.cell? ⟨b,j,none⟩=some v->W1.cell? ⟨b,j,none⟩=some v:=λj v h=>by rw[hW1,World.cell?_alloc_past (w:=w.drew) _ b j hbw];exact h
 have hOv:∀j v,w.cell? ⟨vb,j,none⟩=some v->W1.cell? ⟨vb,j,none⟩=some v:=λj v h=>by rw[hW1,World.cell?_alloc_past (w:=w.drew) _ vb j hvw];exact h
 have hcpA:∀(ρ:World),(∀x,ρ.cell? x=W1.cell? x)->(∀x,ρ.frozen? x=W1.frozen? x)->∀ty dc,(Builtin.copy_ #[S,S] ty #[.slice (some ⟨w.heap.size,i*z,none⟩) (n+m-i) dc,.slice (some ⟨vb,voff,none⟩) m vc]).run Tryz.prog ρ=.ok (goInt m) (ρ.setCells w.heap.size (i*z) vs):=λρ hWc hWf ty dc=>
  H4 ρ _ _ ty α w.heap.size (i*z) (n+m-i) dc ⟨vb,voff,none⟩ m vc m vs (AjT K) hi0 (by simp only[Nat.min_def];split<;>exact om K) (by rw[hvl,hzs])
   (λj v hj=>by rw[Addr.add_lit,hWc];exact hOv _ v (hvs j v hj))
   (λj hj=>by rw[hvl]at hj;rw[hWc];exact hN _ (om K)) (λj hj=>by rw[hWf];exact hNf _) h1v
 have hGn:n+m<=G:=by rw[hG];exact grownCap_ge w _ _ _
 have hG63:G<=9223372036854775807:=by have:=grownCap_le_maxLen w (n+m) c α (by unfold maxLen;exact om K);rw[<-hG]at this;unfold maxLen at this;exact om K
 have hGi:¬(G=i):=om K;have hGim:¬(G=i+m):=om K;have hci:¬(c=i):=om K;have hbN:b≠w.heap.size:=om K;have hdl:(cs.drop (i*z)).length=(n-i)*z:=by rw[sG,hcl,Nat.sub_mul]
 have hcpB:∀(ρ:World),(∀x,ρ.cell? x=(W1.setCells w.heap.size (i*z) vs).cell? x)->(∀x,ρ.frozen? x=(W1.setCells w.heap.size (i*z) vs).frozen? x)->∀ty dc sc,(Builtin.copy_ #[S,S] ty #[.slice (some ⟨w.heap.size,(i+m)*z,none⟩) (n+m-(i+m)) dc,.slice (some ⟨b,off+i*z,none⟩) (n-i) sc]).run Tryz.prog ρ=.ok (goInt ((n-i:Nat):Int)) (ρ.setCells w.heap.size ((i+m)*z) (cs.drop (i*z))):=λρ hWc hWf ty dc sc=>
  H4 ρ _ _ ty α w.heap.size ((i+m)*z) (n+m-(i+m)) dc ⟨b,off+i*z,none⟩ (n-i) sc (n-i) (cs.drop (i*z)) (AjT K) hi0 (by simp only[Nat.min_def];split<;>exact om K) (by rw[hdl,hzs])
   (λj v hj=>by rw[Addr.add_lit,hWc,World.cell?_setCells_out _ _ _ _ _ (λh _=>absurd h hbN),tC];exact hOb _ v (hcs (i*z+j) v (by rwa [Iw]at hj)))
   (λj hj=>by rw[hdl]at hj;rw[hWc];exact World.isSome_setCells _ _ _ _ _ (hN _ (om K)))
   (λj hj=>by rw[hWf,World.frozen?_setCells];exact hNf _) (λv hv=>h1c v (List.mem_of_mem_drop hv))
 refine Calls.mono (R:=λe w'=>e=.returned (.slice (some ⟨w.heap.size,0,none⟩) (n+m) G)/\w'=(((w.alloc (.cells (cs.take (i*z)++us).toArray α)).drew.setCells w.heap.size (i*z) vs).drew).setCells w.heap.size ((i+m)*z) (cs.drop (i*z))) ?_ (λe w' hh=>⟨G,us,hh.1,hGn,hul,hh.2⟩);have hW:RowKit.Hid (W1=w.drew.alloc (.cells (cs.take (i*z)++us).toArray α)):=hW1;obtain⟨ROW,hROW⟩:∃ROW:Array Value,ROW=(cs.take (i*z)++us).toArray:=⟨_,rfl⟩
 rw[<-hROW]at hW1⊢;subst hW1;have hE1:∀x,((w.alloc (.cells ROW α)).drew).cell? x=(w.drew.alloc (.cells ROW α)).cell? x:=λx=>rfl
 have hE2:∀x,((w.alloc (.cells ROW α)).drew).frozen? x=(w.drew.alloc (.cells ROW α)).frozen? x:=λx=>rfl
 have hF1:∀x,(((w.alloc (.cells ROW α)).drew.setCells w.heap.size (i*z) vs).drew).cell? x=((w.drew.alloc (.cells ROW α)).setCells w.heap.size (i*z) vs).cell? x:=λx=>rfl
 have hF2:∀x,(((w.alloc (.cells ROW α)).drew.setCells w.heap.size (i*z) vs).drew).frozen? x=((w.drew.alloc (.cells ROW α)).setCells w.heap.size (i*z) vs).frozen? x:=λx=>rfl
 have hw1:IntKind.i64.wrap ((i:Int)+(m:Int))=(i:Int)+(m:Int):=by rw[IntKind.wrap_i64];exact om K
 have hb1:(0:Int)<=(i:Int)+(m:Int):=om K;have hin:i<=n:=om K;have htn:((i:Int)+(m:Int)).toNat=i+m:=om K;have hb3:(i:Int)<=(n:Int):=om K;clear hkk hik hold hROW hG hRl hus hul hN hNf hOb hOv hdl hcs hvs h1c h1v hcl hvl hW;cases K
 case' m=>go_enter Tryz.func168,Tryz.ntmps168
 case' u=>go_enter Tryz.func203,Tryz.ntmps203
 all_goals
  go_wp2_with (first
   |(at_builtin;refine Lib.wpList_append_run _ rfl _ _ _ _ rfl _ _ rfl rfl _ _ (hrz _) ?_)
   |(at_builtin;refine wpList_copy_runI _ rfl _ _ _ _ rfl _ _ rfl rfl (hcpA _ hE1 hE2 _ _) ?_))
  go_region_law_o (refine step_copy_runI rfl _ _ _ _ rfl _ _ (by simp[Act.eval,Act.put]) (by simp[Act.eval,Act.put]) (hcpB _ hF1 hF2 3 (G-(i+m)) (c-i)) ?_)
  go_wp2
  go_ret
  exact⟨rfl,rfl⟩
theorem Akm{rows:List (List AV)}{u d:List AV}{i:Nat}(hi:i<=rows.length)(hn:(rows.length+1)*B<=140737488355328)(hr6:∀r∈rows,r.length=z):K4 Tryz.prog F z rows [.i i,.sl z false [u] d] (rows.take i++[u]++rows.drop i):=by
 intro U vs vals base b o cap gl hlt hr hv h1 hl hc hor;obtain⟨y1,ys1,rfl,r1,r2⟩:=hr;obtain⟨y2,ys2,rfl,r3,r4⟩:=r2;simp only[RepL]at r4;subst r4;simp only[Rep]at r1;subst r1;obtain⟨vbase,vc,us,rfl,_,_,u1,u2,_,u3,_,u4,_⟩:=LW r3;rcases u4 with u4|⟨vb,voff,rfl,⟨z1,z2,z3⟩,u5⟩
 ·cases u4
 rcases u3 with u3|⟨u3,u6⟩
 ·cases u3
 simp only[z7,Nat.one_mul]at u6;have e1:rows.flatten=(rows.take i).flatten++(rows.drop i).flatten:=by rw[<-List.flatten_append,y9]
 rw[e1]at hv;obtain⟨xs,ys,rfl,v1,v2⟩:=HP hv;have lx:xs.length=i*z:=by rw[Bs v1,LM λr hr=>hr6 r (List.mem_of_mem_take hr),tW];exact om K
 have ly:ys.length=(rows.length-i)*z:=by rw[Bs v2,LM λr hr=>hr6 r (List.mem_of_mem_drop hr),sG]
 have t1:(xs++ys).take (i*z)=xs:=by rw[<-lx,List.take_left]
 have t2:(xs++ys).drop (i*z)=ys:=by rw[<-lx,List.drop_left]
 have o1:∀v∈xs++ys,v.oneCell'=true:=λv hv=>Ow (h1 v hv)
 have o2:∀v∈us,v.oneCell'=true:=λv hv=>Ow (u2 v hv)
 have hfl:(rows.take i++[u]++rows.drop i).flatten=(rows.take i).flatten++(([u]:List (List AV)).flatten++(rows.drop i).flatten):=by simp
 have hln:(rows.take i++[u]++rows.drop i).length=rows.length+1:=by rw[jT,jT,tW,sG,z7];omega
 have fin:∀(b' o' cap':Nat)(w':World),rows.length+1<=cap'->KeptB b U.w w'->(b'=b\/U.w.heap.size<=b')->b'<w'.heap.size->Lies w' b' o' (xs++(us++ys))->∃(b'' o'' cap'':Nat)(vals':List Value),(Ending.returned (.slice (some ⟨b',o',none⟩) (rows.length+1) cap'):Ending)=.returned (.slice (some ⟨b'',o'',none⟩) (rows.take i++[u]++rows.drop i).length cap'')/\(rows.take i++[u]++rows.drop i).length<=cap''/\KeptB b U.w w'/\(b''=b\/U.w.heap.size<=b'')/\b''<w'.heap.size/\Lies w' b'' o'' vals'/\RepL U (rows.take i++[u]++rows.drop i).flatten vals'/\∀x∈vals',Bw x=true:=λb' o' cap' w' q1 q2 q3 q4 q5=>
  ⟨b',o',cap',xs++(us++ys),by rw[hln],by rw[hln];exact q1,q2,q3,q4,q5,by rw[hfl];exact Ds v1 (Ds u1 v2),λx hx=>by
   rcases mU.1 hx with hx|hx
   ·exact h1 x (by simp[hx])
   ·rcases mU.1 hx with hx|hx
    ·exact u2 x hx
    ·exact h1 x (by simp[hx])⟩
 have nd:U.w.drew.heap.size=U.w.heap.size:=rfl;rcases hor with⟨rfl,hcap,hlies,hM,cs,T,hb,hsz⟩|⟨rfl,hbz⟩
 ·have hbl:b<U.w.heap.size:=hlt b (.inl hM);have hvb:vb≠b:=λe=>z1 (e▸hM)
  have hfb:∀j,U.w.frozen? ⟨b,j,none⟩=false:=λj=>by simp[World.frozen?,hb]
  have hsome:∀j,j<cap*z->(U.w.cell? ⟨b,o+j,none⟩).isSome=true:=λj hj=>by
   have e:U.w.cell? ⟨b,o+j,none⟩=cs[o+j]? :=by simp only[World.cell?,hb];rfl
   rw[e,iW (om K)];rfl
  by_cases hroom:rows.length+1<=cap
  ·by_cases hin:i<rows.length
   ·have hsh:∃tA kA,U.w.shape? vb=some (tA,kA)/\kA≠0:=by
     have h0:=u5 0 _ (dO (om K));unfold World.cell? at h0;simp only[Gt]at h0;split at h0
     ·rename_i c t f hc;refine⟨t,c.size,by unfold World.shape?;rw[hc],λe=>?_⟩;simp only[Jb,yF,if_false]at h0;have:=(dY.1 h0).1;exact om K
     ·cases h0
    obtain⟨tA,kA,hsa,hkA⟩:=hsh;have hsb:U.w.shape? b=some (T,cs.size):=by unfold World.shape?;rw[hb]
    refine(AkW K b o rows.length cap i vb voff 1 vc (xs++ys) us U.w hin (om K) hroom (om K) hvb hl (om K) hlies (λj hj=>hsome j (om K)) (λj _=>hfb _) u5 o1 o2 tA T kA cs.size hsa hsb hkA hfb).mono ?_;rintro e w' ⟨rfl,rfl⟩;rw[t2];obtain⟨k1,s1⟩:=KeptB.cells b ys (o+(i+1)*z) U.w.drew;obtain⟨k2,s2⟩:=KeptB.cells b us (o+i*z) (U.w.drew.setCells b (o+(i+1)*z) ys);refine fin b o cap _ hroom (((KeptB.drew b U.w).trans k1).trans k2) (.inl rfl) (by rw[s2,s1];exact hbl) ?_;have hlx:Lies U.w.drew b o xs:=hlies.left;refine((hlx.setOut (.inl (om K))).setOut (.inl (om K))).app ?_;rw[lx];refine(Lies.setIn λj hj=>?_).app ?_
    ·refine World.isSome_setCells b _ _ U.w.drew _ ?_;rw[tC];exact hsome _ (om K)
    ·rw[show o+i*z+us.length=o+(i+1)*z from om K];refine(Lies.setIn λj hj=>?_).setOut (.inr (om K));rw[tC];exact hsome _ (om K)
   ·obtain rfl:i=rows.length:=om K;have hy:ys=[]:=H8.1 (om K);subst hy;refine(AkA K b o rows.length cap vb voff 1 vc us U.w (om K) hroom (om K) (om K) (λj hj=>by rw[tC];exact hsome _ (om K)) (λj _=>hfb _) u5 o2).mono ?_;rintro e w' ⟨rfl,rfl⟩;obtain⟨k1,s1⟩:=KeptB.cells b us (o+rows.length*z) U.w;refine fin b o cap _ hroom k1 (.inl rfl) (by rw[s1];exact hbl) ?_;refine(hlies.left.setOut (.inl (om K))).app ?_;rw[lx,qO];refine Lies.setIn λj hj=>?_
    rw[tC];exact hsome _ (om K)
  ·have hnc:rows.length=cap:=om K;by_cases hin:i<rows.length
   ·refine(Ali K b o rows.length cap i vb voff 1 vc (xs++ys) us U.w hin (om K) hc (om K) hn hl (om K) hlies u5 o1 o2).mono ?_;rintro e w' ⟨g,zs,rfl,hg,hz,rfl⟩;rw[t1,t2];obtain⟨k1,s1⟩:=KeptB.cells U.w.heap.size us (i*z) (U.w.alloc (.cells (xs++zs).toArray α)).drew;obtain⟨k2,s2⟩:=KeptB.cells U.w.heap.size ys ((i+1)*z) ((U.w.alloc (.cells (xs++zs).toArray α)).drew.setCells U.w.heap.size (i*z) us).drew;have k0:=KeptB.alloc b U.w (.cells (xs++zs).toArray α);have sA:(U.w.alloc (.cells (xs++zs).toArray α)).drew.heap.size=U.w.heap.size+1:=LN _ _;have s1':((U.w.alloc (.cells (xs++zs).toArray α)).drew.setCells U.w.heap.size (i*z) us).drew.heap.size=U.w.heap.size+1:=s1.trans sA;have s2':=s2.trans s1';have cell:∀j,j<(xs++zs).length->((U.w.alloc (.cells (xs++zs).toArray α)).drew.cell? ⟨U.w.heap.size,j,none⟩).isSome=true:=λj hj=>by show((U.w.alloc (.cells (xs++zs).toArray α)).cell? ⟨U.w.heap.size,j,none⟩).isSome=true;rw[World.cell?_alloc_at _ _ _ j rfl,List.getElem?_toArray,dO hj];rfl
    have lxz:(xs++zs).length=i*z+zs.length:=by rw[jT,lx]
    refine fin U.w.heap.size 0 g _ hg ⟨λx hx hne=>?_,by rw[s2'];exact om K,⟨k2.io.1.trans (k1.io.1.trans k0.io.1),k2.io.2.trans (k1.io.2.trans k0.io.2)⟩⟩ (.inr (fW _)) (by rw[s2'];exact om K) ?_
    ·rw[k2.heap x (by rw[s1'];exact om K) (om K)];refine(k1.heap x (by rw[sA];exact om K) (om K)).trans ?_;exact k0.heap x hx hne
    ·have hx0:Lies (U.w.alloc (.cells (xs++zs).toArray α)).drew U.w.heap.size 0 xs:=by intro j v hj;show(U.w.alloc (.cells (xs++zs).toArray α)).cell? ⟨U.w.heap.size,0+j,none⟩=some v;rw[World.cell?_alloc_at _ _ _ (0+j) rfl,rB,List.getElem?_toArray,xV (jW.1 hj).1];exact hj
     have hx1:Lies ((U.w.alloc (.cells (xs++zs).toArray α)).drew.setCells U.w.heap.size (i*z) us).drew U.w.heap.size 0 xs:=hx0.setOut (.inl (om K));have hu1:Lies ((U.w.alloc (.cells (xs++zs).toArray α)).drew.setCells U.w.heap.size (i*z) us).drew U.w.heap.size (i*z) us:=Lies.setIn λj hj=>cell _ (om K)
     refine(hx1.setOut (.inl (om K))).app ?_;rw[lx,rB];refine(hu1.setOut (.inl (om K))).app ?_;rw[show i*z+us.length=(i+1)*z from om K];refine Lies.setIn λj hj=>?_
     exact World.isSome_setCells _ _ _ _ _ (cell _ (om K))
   ·obtain rfl:i=rows.length:=om K;have hy:ys=[]:=H8.1 (om K);subst hy;rw[qO]at hlies hl;refine(AkB K b o rows.length cap vb voff 1 vc xs us U.w (om K) hc (om K) hn hl (om K) hlies u5).mono ?_;rintro e w' ⟨g,zs,rfl,hg,rfl⟩;refine fin U.w.heap.size 0 g _ hg ((KeptB.drew b U.w).trans (KeptB.alloc b U.w.drew _)) (.inr (fW _)) (by rw[LN];exact Ki _) ?_;rw[qO];exact(MS U.w.drew U.w.heap.size rfl (xs++us++zs) _).left
 ·have h0:rows=[]:=H8.1 (om K);subst h0;have hi0:i=0:=by simpa using hi
  subst hi0;have hx0:xs=[]:=H8.1 (om K);have hy0:ys=[]:=H8.1 (by rw[ly,yH];exact om K);subst hx0;subst hy0;refine(Alm K base vb voff 1 vc us U.w (om K) hn (om K) u5).mono ?_;rintro e w' ⟨g,zs,rfl,hg,rfl⟩;refine fin U.w.heap.size 0 g _ hg ((KeptB.drew b U.w).trans (KeptB.alloc b U.w.drew _)) (.inr (fW _)) (by rw[LN];exact Ki _) ?_;rw[qO,pA];exact(MS U.w.drew U.w.heap.size rfl (us++zs) _).left
end
end
open Go
attribute [local irreducible] Ax BO BB Bj BC Bk AY BD BK Cq
theorem ZY:Dh Tryz.prog 203:=⟨_,Tryz.func203,by kernel_rfl,by kernel_rfl⟩
theorem AcL:Dh Tryz.prog 204:=⟨_,Tryz.func204,by kernel_rfl,by kernel_rfl⟩
theorem OH{l:List Un}:∀r∈l.map Au,r.length=6/\AP r=true:=λr hr=>by obtain⟨x,_,rfl⟩:=List.mem_map.1 hr;exact⟨rfl,rfl⟩
theorem YU{l:List Un}{i:Int}{u:Un}{d:List AV}(h0:0<=i)(h1:i<=l.length)(h2:(l.length+1)*64<=140737488355328):K4 Tryz.prog 203 6 (l.map Au) [.i i,.sl 6 false [Au u] d] ((l.take i.toNat++[u]++l.drop i.toNat).map Au):=by have h:=Akm .u (rows:=l.map Au) (u:=Au u) (d:=d) (i:=i.toNat) (by rw[qI];omega) (by rw[qI];exact h2) (λr hr=>(OH r hr).1);rw[show((i.toNat:Nat):Int)=i by omega]at h;rw[uI,uI,List.map_take,List.map_drop];exact h
theorem uF{l:List Un}{i:Int}(h0:0<=i)(h1:i<l.length)(h2:(l.length:Int)<=9223372036854775807):K4 Tryz.prog 204 6 (l.map Au) [.i i,.i (i+1)] ((l.take i.toNat++l.drop (i.toNat+1)).map Au):=by have h:=sZ (rows:=l.map Au) (i:=i.toNat) (by rw[qI];omega) (by rw[qI];omega) (λr hr=>(OH r hr).1);rw[show((i.toNat:Nat):Int)=i by omega,show((i.toNat+1:Nat):Int)=i+1 by omega]at h;rw[uI,List.map_take,List.map_drop];exact h
