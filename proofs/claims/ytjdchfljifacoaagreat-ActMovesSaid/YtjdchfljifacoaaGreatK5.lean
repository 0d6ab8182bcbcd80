import Derived.Test.YtjdchfljifacoaaGreatF1
import Derived.Deep.MidRow
import Derived.Shelf.Spec.SlicesInsert
import Derived.Lib.AppendZerosOnto
set_option linter.all false
set_option maxRecDepth 1000000
set_option maxHeartbeats 8000000
namespace Go.Proofs.YtjdchfljifacoaaGreat.Am
section
open Go
attribute [local irreducible] Ax BO BB Bj BC Bk AY BD BK Cq
abbrev Un:=Int×Int×Int×(List (Int×Int))×Int×Int
def FI{E:Type}:List E->List (E×E)
 |[]=>[]
 |u::r=>r.map (λv=>(u,v))++FI r
def pU(e:Un×Un):List AV:=[.agg (Au e.1),.agg (Au e.2)]
theorem lD{E:Type}{l:List E}{i:Nat}{u:E}(h:l[i]? =some u):FI (l.drop i)=(l.drop (i+1)).map (λv=>(u,v))++FI (l.drop (i+1)):=by obtain⟨h1,h2⟩:=nL.1 h;rw[pA h1,h2,FI]
theorem fF{l:List Un}{i:Nat}{u:Un}(h:l[i]? =some u)(d:List AV):A6 (l.map Au) d i=Au u:=by unfold A6;rw[dQ,sH,h];rfl
theorem AaK{E:Type}{l:List E}{k:Nat}{x:E}{r:List E}(h:l.drop k=x::r):l[k]? =some x/\l.drop (k+1)=r/\k<l.length:=by
 have h1:(l.drop k)[0]? =some x:=by rw[h];rfl
 rw[Gd]at h1;refine⟨h1,?_,(nL.1 h1).1⟩;rw[<-List.drop_drop,h];rfl
section
attribute [local go_sem] Cz MR QO Jx Sx Sy List.set_cons_succ List.isEmpty_map List.map_append List.map_eq_nil_iff ne_eq List.length_replicate X8 X9 List.length_set Option.isSome_some
theorem lE(l:List Un)(f:Bool)(hlen:l.length<=1000000000):T8 Tryz.prog 123 [] [.ro [.sl 6 f (l.map Au) [.i 0,.i 0,.i 0,.sl 0 true [] [],.i 0,.i 0]] 0] ((FI l).map pU):=by
 refine XS (Aj (P:=Tryz.prog)) _ x123.hf x123.hc x123.hn (by simp[x123,Ah,gs]) (qZ rfl) λy V hOK hTS hY hYD=>?_
 have hS:=Aj (P:=Tryz.prog);have F:=fc hTS f0;dsimp only[x123,Ah,BW];refine go hOK F ?_;refine IB (λx:Nat×Nat×Nat=>⟨[(10,.i x.1),(9,.i l.length),(8,.sl 6 f (l.map Au) [.i 0,.i 0,.i 0,.sl 0 true [] [],.i 0,.i 0]),(1,.ro [.sl 6 f (l.map Au) [.i 0,.i 0,.i 0,.sl 0 true [] [],.i 0,.i 0]] 0),(gs,CL x.2.1),(0,.clo (.yield y) [] [])],[],x.2.2⟩)
  (λx=>x.1<=l.length/\x.2.1<=(FI l).length/\(FI l).drop x.2.1=FI (l.drop x.1)) (λx=>l.length-x.1) (0,0,50) ?_ ?_ ?_
 ·simp
 ·exact Ch F
 ·rintro⟨i,k,c⟩ ⟨hi,hk,hd⟩;simp only at hi hk hd;refine go hOK F ?_;refine cb F (decide ((i:Int)<l.length)) (λhi1=>?_) (λhi1=>?_)
  ·have hi':i<l.length:=by simpa using hi1
   obtain⟨⟨a1,a2,a3,a4,a5,a6⟩,hu⟩:∃u,l[i]? =some u:=⟨_,dY hi'⟩
   rw[lD hu]at hd;have hrow:=fF hu;simp only[Au]at hrow;have htn:((i:Int)+1).toNat=i+1:=by omega
   replace F:=fc hrow (fc htn F);refine go hOK F ?_;refine IB (λx:Nat×Nat×Nat=>⟨[(21,.i x.1),(20,.i (l.drop (i+1)).length),(19,.sl 6 f ((l.drop (i+1)).map Au) [.i 0,.i 0,.i 0,.sl 0 true [] [],.i 0,.i 0]),(10,.i i),(9,.i l.length),(8,.sl 6 f (l.map Au) [.i 0,.i 0,.i 0,.sl 0 true [] [],.i 0,.i 0]),(4,.box (203,c+1+1) 0),(1,.ro [.sl 6 f (l.map Au) [.i 0,.i 0,.i 0,.sl 0 true [] [],.i 0,.i 0]] 0),(gs,CL x.2.1),(0,.clo (.yield y) [] [])],[(.c (203,c+1+1) 0,.i a1),(.c (203,c+1+1) 1,.i a2),(.c (203,c+1+1) 2,.i a3),(.c (203,c+1+1) 3,.sl 2 false (a4.map Cz) [.i 0,.i 0]),(.c (203,c+1+1) 4,.i a5),(.c (203,c+1+1) 5,.i a6)],x.2.2⟩)
    (λx=>x.1<=(l.drop (i+1)).length/\x.2.1<=(FI l).length/\(FI l).drop x.2.1=((l.drop (i+1)).drop x.1).map (λv=>((a1,a2,a3,a4,a5,a6),v))++FI (l.drop (i+1))) (λx=>(l.drop (i+1)).length-x.1) (0,k,c+50) ?_ ?_ ?_
   ·exact⟨tW _,hk,hd⟩
   ·exact Ch F
   ·rintro⟨j,k2,c2⟩ ⟨hj,hk2,hd2⟩;simp only at hj hk2 hd2;refine go hOK F ?_;refine cb F (decide ((j:Int)<(l.drop (i+1)).length)) (λhj1=>?_) (λhj1=>?_)
    ·have hj':j<(l.drop (i+1)).length:=by simpa using hj1
     obtain⟨⟨b1,b2,b3,b4,b5,b6⟩,hv⟩:∃u,(l.drop (i+1))[j]? =some u:=⟨_,dY hj'⟩
     have hrow2:=fF hv;simp only[Au]at hrow2;have q1:((j+1:Nat):Int)=(j:Int)+1:=rfl;have q2:((k2+1:Nat):Int)=(k2:Int)+1:=rfl;replace F:=fc q1 (fc q2 (fc hrow2 F));rw[pA hj',show(l.drop (i+1))[j]=(b1,b2,b3,b4,b5,b6)from(nL.1 hv).2,iW,sW]at hd2;obtain⟨g1,g2,g3⟩:=AaK hd2;refine go hOK F ?_;refine hY 3 (args:=pU ((a1,a2,a3,a4,a5,a6),(b1,b2,b3,b4,b5,b6))) rfl rfl (by simp only[go_sem,seval,F]<;>eq_refl) ?_ (by simp only[go_sem,seval]<;>eq_refl) (by simp only[go_sem,seval]<;>eq_refl) (by simp only[go_sem,seval]<;>eq_refl) (by simp only[go_sem,seval,Am.pU,Am.Au]<;>eq_refl) ?_ (by simp only[go_sem,seval,F]<;>eq_refl) ?_ ?_ (by simp only[go_sem,seval,F]<;>eq_refl) ?_ ?_
     ·repeat' (first|exact yT|omega|apply And.intro)
     ·rw[sH,g1];rfl
     ·exact yT
     ·refine go hOK F ?_;refine cf F ?_;refine go hOK F ?_;exact JL (j+1,k2+1,c2+50) ⟨by show j+1<=_;omega,by show k2+1<=_;omega,g2⟩ (by show(l.drop (i+1)).length-(j+1)<(l.drop (i+1)).length-j;omega) (Ch F)
     ·exact yT
     ·refine go hOK F ?_;refine ct F ?_;refine go hOK F ?_;refine Sw ?_;simp only[go_sem,seval]
    ·have:j=(l.drop (i+1)).length:=by
      have:¬((j:Int)<(l.drop (i+1)).length):=by simpa using hj1
      omega
     subst this;rw[uO,u7,rA]at hd2;have q1:((i+1:Nat):Int)=(i:Int)+1:=rfl;replace F:=fc q1 F;refine go hOK F ?_;exact JL (i+1,k2,c2+50) ⟨by show i+1<=_;omega,hk2,hd2⟩ (by show l.length-(i+1)<l.length-i;omega) (Ch F)
  ·refine go hOK F ?_;refine nP ?_;have:i=l.length:=by
    have:¬((i:Int)<l.length):=by simpa using hi1
    omega
   subst this;rw[uO,FI]at hd;have:k=(FI l).length:=Nat.le_antisymm hk (List.drop_eq_nil_iff.1 hd);simp only[go_sem,seval,this,rC]
def Xc:Spec|[.agg [.sl z f rows d]]=>some (True,.clo (.func 123) [] [.ro [.sl z f rows d] 0])|_=>none
theorem fG:AG Tryz.prog 101 Xc:=⟨x101.ok,by
 intro args vc r h hv;unfold Xc at h;split at h
 ·cases h
  refine O4 (Aj (P:=Tryz.prog)) _ x101.hf x101.hc x101.hn (qZ rfl) λ_=>?_
  have hS:=Aj (P:=Tryz.prog);dsimp only[x101,Ah,BW]
  repeat' (first
  |((with_reducible first|apply DD|apply EA|apply Eu|apply FL|apply DE|apply DF);(·(first|exact Ctx.fn_ok hS|exact Ctx.rd_ok hS|assumption|exact yT));iterate 2 (·(simp only[go_sem,seval]<;>eq_refl)))
  |(with_reducible first|apply Dz|apply En|apply Di|apply Dj|apply CX|apply Cw|apply CK|apply DW|apply Ec|apply Eo|apply Ep|apply Er|apply Es)
  |(with_reducible apply Et;(·first|rfl|decide))
  |(with_reducible first|apply DB|apply DC|apply Ex|apply Ey|apply Ez|apply yT|apply And.intro yT yT)
  |(fail_if_success with_reducible apply G1);(fail_if_success with_reducible apply Ew);first|omega|(simp only[go_sem,seval];done)
  |fail)
  first|refine Ma (by simp only[go_sem,seval]<;>eq_refl) (by simp only[go_sem,seval]) (by simp only[go_sem,seval]) ?_ rfl|refine Mb (by simp only[go_sem,seval]<;>eq_refl) (by simp only[go_sem,seval]) (by simp only[go_sem,seval]) ?_ rfl
  simp only[go_sem,seval]
 ·simp at h⟩
end
end
open Go Go.RowKit Go.Lib
theorem XK{P:Program}(w:World)(t e ty:TypeId)(z:Value)(ht:P.underlying t=some (.slice e))(hv:∀w,(zeroValue e).run P w=.ok z w)(b o n c:Nat)(hn:0<n)(zs:List Value)(hz:(Builtin.zeroCells z.cells n).toList=zs)(h1:∀v∈zs,v.oneCell'=true)(hc:∀j,j<zs.length->(w.cell? ⟨b,o+j,none⟩).isSome=true)(hf:∀j,j<zs.length->w.frozen? ⟨b,o+j,none⟩=false):(Builtin.clear_ #[t] ty #[.slice (some ⟨b,o,none⟩) n c]).run P w=.ok (.tuple #[]) (w.setCells b o zs):=by
 have hst:=run_storeCells_cells (P:=P) b o zs 0 w (by simpa using hc) (by simpa using hf) h1;simp only[F4]at hst;obtain⟨m,rfl⟩:∃m,n=m+1:=⟨n-1,by omega⟩
 simp[Builtin.clear_,run_underlying ht,hv,hz,hst]
theorem Tl:∃j,Tryz.prog.info? 34=some j/\j.size=6:=z9.1 (show(Tryz.prog.info? 34).map (·.size)=some 6 by kernel_rfl)
def zU:List Value:=[.int .i64 0,.int .i64 0,.int .i64 0,.slice none 0 0,.int .i64 0,.int .i64 0]
theorem Acs(b o n c i j:Nat)(vals:List Value)(w:World)(hl:vals.length=n*6)(hij:i<j)(hj:j<=n)(hj1:RowKit.Hid (j=i+1))(hcap:n<=c)(hc63:n<=9223372036854775807)(hcs:∀j v,vals[j]? =some v->w.cell? ⟨b,o+j,none⟩=some v)(hfz:∀j,j<n*6->w.frozen? ⟨b,o+j,none⟩=false)(h1:∀v∈vals,v.oneCell'=true):Calls Tryz.prog 204 #[.slice (some ⟨b,o,none⟩) n c,.int .i64 i,.int .i64 j] w λe w'=>e=.returned (.slice (some ⟨b,o,none⟩) (i+(n-j)) c)/\w'=(w.drew.setCells b (o+i*6) (vals.drop (j*6))).setCells b (o+(i+(n-j))*6) zU:=by
 obtain⟨i0,hi0,hz1⟩:=Tl;have hjo:j=i+1:=hj1;obtain⟨news,hnews⟩:∃news,news=vals.drop (j*6):=⟨_,rfl⟩
 have hlen:news.length=(n-j)*6:=by rw[hnews,tD,hl,Nat.sub_mul]
 have hget:∀t v,news[t]? =some v->w.cell? ⟨b,o+j*6+t,none⟩=some v:=λt v h=>by rw[hnews,Gd]at h;rw[tV];exact hcs _ v h
 have hsome:∀j,j<n*6->(w.cell? ⟨b,o+j,none⟩).isSome=true:=λj hj=>by rw[hcs j _ (dY (by omega))];rfl
 obtain⟨A,hA,hsrc⟩:∃A:Addr,(if c=j then some (⟨b,o,none⟩:Addr)else some ⟨b,o+j*6,none⟩)=some A/\RowKit.Hid (∀t u,news[t]? =some u->w.drew.cell? (A.add t)=some u):=by
  by_cases h:c=j
  ·refine⟨⟨b,o,none⟩,by simp[h],λt u hu=>?_⟩;have h0:news.length=0:=by rw[hlen];omega
   rw[Fe.1 h0]at hu;simp at hu
  ·exact⟨⟨b,o+j*6,none⟩,by simp[h],λt u hu=>by rw[Addr.add_lit];exact hget t u hu⟩
 have s1:RowKit.Hid (news.length=(n-j)*6):=hlen;have s2:RowKit.Hid (∀u∈news,u.oneCell'=true):=λu hu=>h1 u (by rw[hnews]at hu;exact H8 hu)
 have s3:RowKit.Hid (∀t,t<news.length->(w.drew.cell? ⟨b,o+i*6+t,none⟩).isSome=true/\w.drew.frozen? ⟨b,o+i*6+t,none⟩=false):=by intro t ht;rw[hlen]at ht;rw[tV];exact⟨hsome _ (by omega),hfz _ (by omega)⟩
 obtain⟨W1,hW1⟩:∃W1,W1=w.drew.setCells b (o+i*6) news:=⟨_,rfl⟩
 have W1s:∀k,(w.cell? ⟨b,k,none⟩).isSome=true->(W1.cell? ⟨b,k,none⟩).isSome=true:=λk hk=>by rw[hW1];exact World.isSome_setCells b news (o+i*6) w.drew _ hk
 have W1f:∀k,W1.frozen? ⟨b,k,none⟩=w.frozen? ⟨b,k,none⟩:=λk=>by rw[hW1,World.frozen?_setCells];rfl
 have hcl:∀ty,(Builtin.clear_ #[26] ty #[.slice (some ⟨b,o+(i+(n-j))*6,none⟩) (n-(i+(n-j))) (c-(i+(n-j)))]).run Tryz.prog W1=.ok (.tuple #[]) (W1.setCells b (o+(i+(n-j))*6) zU):=by
  intro ty;rw[show n-(i+(n-j))=1 by omega];exact XK W1 _ _ ty _ Tryz.underlying26 Tryz.zeroValue34 b (o+(i+(n-j))*6) 1 _ (by omega) zU (by kernel_rfl) (by decide) (λk hk=>W1s _ (by
   have:k<6:=hk;rw[tV];exact hsome _ (by omega))) (λk hk=>by
   have:k<6:=hk;rw[W1f,tV];exact hfz _ (by omega))
 have hW:RowKit.Hid (W1=w.drew.setCells b (o+i*6) news):=hW1;have hN:RowKit.Hid (news=vals.drop (j*6)):=hnews;have hic:i<=c:=by omega
 have hin:i<=n:=by omega
 have hjc:j<=c:=by omega
 have hne:¬(i:Int)=(j:Int):=by omega
 have mixed:Tryz.prog.follows .mixedOrders=true:=by kernel_rfl
 clear hW1 W1s W1f hsome hget hcs hfz h1 hjo hnews hlen
 go_enter Tryz.func204,Tryz.ntmps204
 go_wp2_with fail
 go_region_law_o (refine step_append_room rfl (.tmp 22) (.tmp 25) 26 rfl 34 i0 6 Tryz.underlying26 hi0 hz1 b o i c (by simp[Act.eval,Act.put]) A (n-j) (c-j) news (by simp[Act.eval,Act.put]) s1.out hsrc.out s2.out (by omega) s3.out ?_;rw[<-hW.out])
 go_wp2
 go_ret
 rw[hW.out,hN.out];exact⟨rfl,rfl⟩
def Yz(w:World)(b o:Nat)(vs:List Value):Prop:=∀j v,vs[j]? =some v->w.cell? ⟨b,o+j,none⟩=some v
theorem Aev(b o n c i:Nat)(vals:List Value)(w:World)(hl:vals.length=n*6)(hi:i<n)(hcap:n<=c)(hc63:n<=9223372036854775807)(hcs:Yz w b o vals)(hfz:∀j,j<n*6->w.frozen? ⟨b,o+j,none⟩=false)(h1:∀v∈vals,v.oneCell'=true):Calls Tryz.prog 204 #[.slice (some ⟨b,o,none⟩) n c,.int .i64 i,.int .i64 ((i+1:Nat):Int)] w λe w'=>e=.returned (.slice (some ⟨b,o,none⟩) (n-1) c)/\KeptB b w w'/\w'.heap.size=w.heap.size/\Yz w' b o (vals.take (i*6)++vals.drop ((i+1)*6)):=by
 refine(Acs b o n c i (i+1) vals w hl (by omega) (by omega) rfl hcap hc63 hcs hfz h1).mono ?_;rintro e w' ⟨rfl,rfl⟩;have hn:i+(n-(i+1))=n-1:=by omega
 rw[hn];have hs:∀j,j<n*6->(w.cell? ⟨b,o+j,none⟩).isSome=true:=λj hj=>by rw[hcs j _ (dY (by omega))];rfl
 have hdl:(vals.drop ((i+1)*6)).length=(n-1-i)*6:=by rw[tD,hl];omega
 obtain⟨k1,z1⟩:=KeptB.cells b (vals.drop ((i+1)*6)) (o+i*6) w.drew;obtain⟨k2,z2⟩:=KeptB.cells b zU (o+(n-1)*6) (w.drew.setCells b (o+i*6) (vals.drop ((i+1)*6)));refine⟨rfl,((KeptB.drew b w).trans k1).trans k2,z2.trans z1,λj v hj=>?_⟩;have hj':=(nL.1 hj).1;rw[nK,u9,hdl]at hj';rw[World.cell?_setCells_out b zU _ _ _ (λ_ _=>.inl (by show o+j<o+(n-1)*6;omega))];by_cases hji:j<i*6
 ·rw[World.cell?_setCells_out b _ _ _ _ (λ_ _=>.inl (by show o+j<o+i*6;omega))];rw[w9 (by rw[u9];omega),v9,fU hji]at hj;exact hcs j v hj
 ·rw[y7 (by rw[u9];omega),u9,show min (i*6) vals.length=i*6 by omega]at hj;have hlt:=(nL.1 hj).1;have:=World.cell?_setCells_in b (vals.drop ((i+1)*6)) (o+i*6) w.drew (λt ht=>by rw[hdl]at ht;rw[tV];exact hs _ (by omega)) (j-i*6) hlt;rw[show o+i*6+(j-i*6)=o+j by omega]at this;rw[this];exact(nL.1 hj).2▸rfl
theorem Ow{v:Value}(h:Bw v=true):v.oneCell'=true:=by cases v<;>first|rfl|(simp[Bw]at h)
theorem LM{sz:Nat}:∀{rows:List (List AV)},(∀r∈rows,r.length=sz)->rows.flatten.length=rows.length*sz
 |[],_=>by simp
 |r::rows,h=>by rw[yI,nK,h r (by simp),LM λr hr=>h r (by simp[hr]),rB,EQ,F9]
theorem sZ{rows:List (List AV)}{i:Nat}(hi:i<rows.length)(hn:rows.length<=9223372036854775807)(hr6:∀r∈rows,r.length=6):K4 Tryz.prog 204 6 rows [.i i,.i ((i+1:Nat):Int)] (rows.take i++rows.drop (i+1)):=by
 intro U vs vals base b o cap gl hlt hr hv h1 hl hc hor;simp only[RepL,Rep]at hr;obtain⟨_,_,rfl,rfl,_,_,rfl,rfl,rfl⟩:=hr;rcases hor with⟨rfl,hcap,hlies,hM,cs,T,hb,hsz⟩|⟨h0,_⟩
 ·refine(Aev b o rows.length cap i vals U.w hl hi hc hn hlies (λj _=>by simp[World.frozen?,hb]) (λv hv=>Ow (h1 v hv))).mono ?_;rintro e w' ⟨rfl,hk,hs,hcells⟩;have hbl:b<U.w.heap.size:=hlt b (.inl hM);have e1:rows.flatten=(rows.take i).flatten++(rows[i]++(rows.drop (i+1)).flatten):=by rw[<-yI,<-List.flatten_append,List.getElem_cons_drop,y8]
  rw[e1]at hv;obtain⟨xs,ys,rfl,v1,v2⟩:=HP hv;obtain⟨us,zs,rfl,v3,v4⟩:=HP v2;have lx:xs.length=i*6:=by rw[Bs v1,LM λr hr=>hr6 r (G3 hr),u9];omega
  have lu:us.length=6:=by rw[Bs v3];exact hr6 _ (Gt hi)
  have t1:(xs++(us++zs)).take (i*6)=xs:=by rw[<-lx,List.take_left]
  have t2:(xs++(us++zs)).drop ((i+1)*6)=zs:=by rw[<-sG,show(i+1)*6=(xs++us).length by rw[nK,lx,lu];omega,List.drop_left]
  rw[t1,t2]at hcells;refine⟨b,o,cap,xs++zs,?_,?_,hk,.inl rfl,by rw[hs];exact hbl,hcells,?_,λx hx=>h1 x ?_⟩
  ·congr 2;rw[nK,u9,tD];omega
  ·rw[nK,u9,tD];omega
  ·rw[List.flatten_append];exact Ds v1 v4
  ·rcases oJ.1 hx with hx|hx
   ·simp[hx]
   ·simp[hx]
 ·omega
theorem H4{P:Program}(w:World)(dT sT ty elem:TypeId){i:TypeInfo}(b o dLen dCap:Nat)(a:Addr)(sLen sCap n:Nat)(cs:List Value)(hu:P.underlying dT=some (.slice elem))(hi:P.info? elem=some i)(hn:Nat.min sLen dLen=n)(hl:cs.length=n*i.size)(hsrc:∀j v,cs[j]? =some v->w.cell? (a.add j)=some v)(hc:∀j,j<cs.length->(w.cell? ⟨b,o+j,none⟩).isSome=true)(hf:∀j,j<cs.length->w.frozen? ⟨b,o+j,none⟩=false)(h1:∀v∈cs,v.oneCell'=true):(Builtin.copy_ #[dT,sT] ty #[.slice (some ⟨b,o,none⟩) dLen dCap,.slice (some a) sLen sCap]).run P w=.ok (goInt n) (w.setCells b o cs):=by have hld:=run_loadCells_list (P:=P) w a cs hsrc;have hst:=run_storeCells_cells (P:=P) b o cs 0 w (by simpa using hc) (by simpa using hf) h1;rw[hl]at hld;simp[Builtin.copy_,run_underlying hu,Builtin.lenOf,Builtin.firstCells,sizeOf,typeInfo,hi,hn,hld,hst]
theorem LG{P:Program}(w:World)(tS tR e:TypeId)(ht:P.underlying tS=some (.slice e))(size:Nat)(hz:∀w,(Go.sizeOf e).run P w=.ok size w)(a b:Addr)(la ca lb cb:Nat)(hne:a.block≠b.block)(tA tB:TypeId)(kA kB:Nat)(hsa:w.shape? a.block=some (tA,kA))(hsb:w.shape? b.block=some (tB,kB))(hkA:kA≠0)(hfb:w.frozen? b=false)(hfe:w.frozen? {block:=b.block,off:=kB}=false):(Extern.SlicesOverlaps.overlaps #[tS,tS] #[tR] #[.slice (some a) la ca,.slice (some b) lb cb]).run P w=.ok (.bool false) w:=by
 have hnb:(a.block !=b.block)=true:=by simpa using hne
 have hnb':(a.block==b.block)=false:=by simpa using hne
 delta Extern.SlicesOverlaps.overlaps
 rw[show∀h1 h2,Extern.SlicesOverlaps.overlaps.match_4 (λ_=>Sem Value) #[.slice (some a) la ca,.slice (some b) lb cb] h1 h2=h1 (some a) la ca (some b) lb cb from λ_ _=>rfl];by_cases h0:la=0\/lb=0\/size=0
 ·simp[run_underlying ht,hz,h0]
 ·cases kA with
  |zero=>exact absurd rfl hkA
  |succ kA=>
   cases hfa:w.frozen? a<;>cases hfz:w.frozen? {block:=a.block,off:=kA+1}<;>
   simp[run_underlying ht,hz,h0,hnb,hnb',frozen,noView,viewAt,mayBeOne,stringish,shape,Sem.run,hsa,hsb,hfa,hfb,hfe,hfz]
theorem XL(b off n c i vb voff m vc:Nat)(cs vs:List Value)(w:World)(hi:i<n)(hm:0<m)(hroom:n+m<=c)(hc63:n+m<=9223372036854775807)(hvb:vb≠b)(hcl:cs.length=n*6)(hvl:vs.length=m*6)(hcs:∀j v,cs[j]? =some v->w.cell? ⟨b,off+j,none⟩=some v)(hsp:∀j,j<(n+m)*6->(w.cell? ⟨b,off+j,none⟩).isSome=true)(hfz:∀j,j<(n+m)*6->w.frozen? ⟨b,off+j,none⟩=false)(hvs:∀j v,vs[j]? =some v->w.cell? ⟨vb,voff+j,none⟩=some v)(h1c:∀v∈cs,v.oneCell'=true)(h1v:∀v∈vs,v.oneCell'=true)(tA tB:TypeId)(kA kB:Nat)(hsa:w.shape? vb=some (tA,kA))(hsb:w.shape? b=some (tB,kB))(hkA:kA≠0)(hfb:∀j,w.frozen? ⟨b,j,none⟩=false):Calls Tryz.prog 203 #[.slice (some ⟨b,off,none⟩) n c,.int .i64 i,.slice (some ⟨vb,voff,none⟩) m vc] w λe w'=>e=.returned (.slice (some ⟨b,off,none⟩) (n+m) c)/\w'=(w.drew.setCells b (off+(i+m)*6) (cs.drop (i*6))).setCells b (off+i*6) vs:=by
 obtain⟨i0,hi0,hzs⟩:=Tl;have hz1:¬((m:Int)=0):=by omega
 have hz2:¬((i:Int)=(n:Int)):=by omega
 have hov:∀lb cb,(callFunc 211 #[.slice (some ⟨vb,voff,none⟩) m vc,.slice (some ⟨b,off+(i+m)*6,none⟩) lb cb]).run Tryz.prog w=.ok (.value (.bool false)) w:=λlb cb=>by rw[run_callFunc_extern Tryz.func211 (by kernel_rfl) (by kernel_rfl) (by kernel_rfl) (e:=Extern.SlicesOverlaps.overlaps #[26,26] #[4]) (by kernel_rfl),LG w 26 4 34 Tryz.underlying26 6 Tryz.sizeOf34 ⟨vb,voff,none⟩ ⟨b,off+(i+m)*6,none⟩ m vc lb cb hvb tA tB kA kB hsa hsb hkA (hfb _) (hfb _)];rfl
 have hdl:(cs.drop (i*6)).length=(n-i)*i0.size:=by rw[tD,hcl,hzs,Nat.sub_mul]
 have hdl6:(cs.drop (i*6)).length=(n-i)*6:=by rw[hdl,hzs]
 have mixed:Tryz.prog.follows .mixedOrders=true:=by kernel_rfl
 have hw1:IntKind.i64.wrap ((i:Int)+(m:Int))=(i:Int)+(m:Int):=by rw[IntKind.wrap_i64];omega
 have hb1:(0:Int)<=(i:Int)+(m:Int):=by omega
 have hin:i<=n:=by omega
 have htn:((i:Int)+(m:Int)).toNat=i+m:=by omega
 have hb2:¬(c=i+m):=by omega
 have hb3:(i:Int)<=(n:Int)+(m:Int):=by omega
 have hb4:¬(c=i):=by omega
 have hcp1:∀ty dc sc,(Builtin.copy_ #[26,26] ty #[.slice (some ⟨b,off+(i+m)*6,none⟩) (n+m-(i+m)) dc,.slice (some ⟨b,off+i*6,none⟩) (n+m-i) sc]).run Tryz.prog w.drew=.ok (goInt ((n-i:Nat):Int)) (w.drew.setCells b (off+(i+m)*6) (cs.drop (i*6))):=λty dc sc=>
  H4 w.drew _ _ ty 34 b (off+(i+m)*6) (n+m-(i+m)) dc ⟨b,off+i*6,none⟩ (n+m-i) sc (n-i) (cs.drop (i*6)) Tryz.underlying26 hi0 (by simp only[Nat.min_def];split<;>omega) hdl
   (λj v hj=>by rw[Addr.add_lit,tV];exact hcs (i*6+j) v (by rwa [Gd]at hj))
   (λj hj=>by rw[hdl6]at hj;rw[tV];exact hsp _ (by omega)) (λj hj=>by rw[hdl6]at hj;rw[tV];exact hfz _ (by omega)) (λv hv=>h1c v (H8 hv))
 obtain⟨W1,hW1⟩:∃W1,W1=w.drew.setCells b (off+(i+m)*6) (cs.drop (i*6)):=⟨_,rfl⟩
 have hsp1:∀k,k<(n+m)*6->(W1.cell? ⟨b,off+k,none⟩).isSome=true:=λk hk=>by rw[hW1];exact World.isSome_setCells b _ _ w.drew _ (hsp k hk)
 have hcp2:∀(ρ:World),(∀x,ρ.cell? x=W1.cell? x)->(∀x,ρ.frozen? x=W1.frozen? x)->∀ty dc,(Builtin.copy_ #[26,26] ty #[.slice (some ⟨b,off+i*6,none⟩) (n+m-i) dc,.slice (some ⟨vb,voff,none⟩) m vc]).run Tryz.prog ρ=.ok (goInt m) (ρ.setCells b (off+i*6) vs):=λρ hWc hWf ty dc=>
  H4 ρ _ _ ty 34 b (off+i*6) (n+m-i) dc ⟨vb,voff,none⟩ m vc m vs Tryz.underlying26 hi0 (by simp only[Nat.min_def];split<;>omega) (by rw[hvl,hzs])
   (λj v hj=>by rw[Addr.add_lit,hWc,hW1,World.cell?_setCells_out b _ _ _ _ (λh _=>absurd h hvb)];exact hvs j v hj)
   (λj hj=>by rw[hvl]at hj;rw[hWc,tV];exact hsp1 _ (by omega)) (λj hj=>by rw[hvl]at hj;rw[hWf,hW1,World.frozen?_setCells,tV];exact hfz _ (by omega)) h1v
 rw[<-hW1]at hcp1;clear hsp1 hcs hsp hfz hvs h1c h1v hdl hdl6 hcl hvl
 go_enter Tryz.func203,Tryz.ntmps203
 go_wp2_with (simp only[hov])
 go_region_law_o (refine step_copy_runI rfl _ _ 26 26 rfl _ _ (by simp[Act.eval,Act.put]) (by simp[Act.eval,Act.put]) (hcp1 _ _ _) ?_)
 go_wp2_with (at_builtin;refine wpList_copy_runI _ rfl _ _ 26 26 rfl _ _ rfl rfl (hcp2 _ (λ_=>rfl) (λ_=>rfl) _ _) ?_)
 go_ret
 first|exact⟨rfl,rfl⟩|exact⟨rfl,by rw[hW1]⟩
theorem UL(b off n c vb voff m vc:Nat)(vs:List Value)(w:World)(hm:0<m)(hroom:n+m<=c)(hc63:n+m<=9223372036854775807)(hvl:vs.length=m*6)(hsp:∀j,j<m*6->(w.cell? ⟨b,off+n*6+j,none⟩).isSome=true)(hfz:∀j,j<m*6->w.frozen? ⟨b,off+n*6+j,none⟩=false)(hvs:∀j v,vs[j]? =some v->w.cell? ⟨vb,voff+j,none⟩=some v)(h1v:∀v∈vs,v.oneCell'=true):Calls Tryz.prog 203 #[.slice (some ⟨b,off,none⟩) n c,.int .i64 n,.slice (some ⟨vb,voff,none⟩) m vc] w λe w'=>e=.returned (.slice (some ⟨b,off,none⟩) (n+m) c)/\w'=w.setCells b (off+n*6) vs:=by
 obtain⟨i0,hi0,hzs⟩:=Tl;have hz1:¬((m:Int)=0):=by omega
 have mixed:Tryz.prog.follows .mixedOrders=true:=by kernel_rfl
 have hrun:∀ty,(Builtin.append_ #[26,26] ty #[.slice (some ⟨b,off,none⟩) n c,.slice (some ⟨vb,voff,none⟩) m vc]).run Tryz.prog w=.ok (.slice (some ⟨b,off,none⟩) (n+m) c) (w.setCells b (off+n*6) vs):=λty=>by have:=run_append_room_cells (P:=Tryz.prog) w 26 ty 34 i0 Tryz.underlying26 hi0 b off n c ⟨vb,voff,none⟩ m vc vs (by rw[hvl,hzs]) (λj u hj=>by rw[Addr.add_lit];exact hvs j u hj) h1v hroom (λj hj=>by rw[hzs];exact hsp j (by omega)) (λj hj=>by rw[hzs];exact hfz j (by omega));rw[hzs]at this;exact this
 clear hsp hfz hvs h1v hvl
 go_enter Tryz.func203,Tryz.ntmps203
 go_wp2_with (at_builtin;refine Lib.wpList_append_run _ rfl _ _ _ _ rfl _ _ rfl rfl _ _ (hrun _) ?_)
 go_ret
 exact⟨rfl,rfl⟩
theorem Tm:∃j,Tryz.prog.info? 34=some j/\j.zero=some (.agg zU.toArray)/\j.size=6/\j.bytes=64:=by
 have h:(Tryz.prog.info? 34).map (λi=>(i.zero,i.size,i.bytes))=some (some (.agg zU.toArray),6,64):=by kernel_rfl
 obtain⟨i,hi,h2⟩:=z9.1 h;simp only[IE]at h2;exact⟨i,hi,h2⟩
theorem UM(b off n c vb voff m vc:Nat)(cs vs:List Value)(w:World)(hm:0<m)(hnc:n<=c)(hroom:c<n+m)(hbig:(n+m)*64<=140737488355328)(hcl:cs.length=n*6)(hvl:vs.length=m*6)(hcs:Lies w b off cs)(hvs:Lies w vb voff vs):Calls Tryz.prog 203 #[.slice (some ⟨b,off,none⟩) n c,.int .i64 n,.slice (some ⟨vb,voff,none⟩) m vc] w λe w'=>∃g us,e=.returned (.slice (some ⟨w.heap.size,0,none⟩) (n+m) g)/\n+m<=g/\w'=w.drew.alloc (.cells (cs++vs++us).toArray 34):=by
 obtain⟨i0,hi0,hz0,hzs,hzb⟩:=Tm;have hz1:¬((m:Int)=0):=by omega
 have mixed:Tryz.prog.follows .mixedOrders=true:=by kernel_rfl
 obtain⟨g,hg⟩:∃g,g=grownCap w (n+m) c 34:=⟨_,rfl⟩
 obtain⟨W1,hW1⟩:∃W1,W1=w.drew.alloc (.cells (cs.toArray++vs.toArray++Builtin.zeroCells (Value.agg zU.toArray).cells (g-(n+m))) 34):=⟨_,rfl⟩
 have hrun:∀ty,(Builtin.append_ #[26,26] ty #[.slice (some ⟨b,off,none⟩) n c,.slice (some ⟨vb,voff,none⟩) m vc]).run Tryz.prog w=.ok (.slice (some ⟨w.heap.size,0,none⟩) (n+m) g) W1:=λty=>by have:=Hh (P:=Tryz.prog) (w:=w) 26 ty 34 i0 _ Tryz.underlying26 hi0 hz0 (.inr ⟨b,off,rfl,hcs⟩) (.inr ⟨vb,voff,rfl,hvs⟩) n m c vc (by rw[hcl,hzs]) (by rw[hvl,hzs]) hroom (by rw[hzb];exact hbig) (by rw[hzb];decide);rw[this,hW1,hg]
 have hge:n+m<=g:=by rw[hg];exact grownCap_ge w _ _ _
 have hW:RowKit.Hid (W1=w.drew.alloc (.cells (cs.toArray++vs.toArray++Builtin.zeroCells (Value.agg zU.toArray).cells (g-(n+m))) 34)):=hW1;clear hcs hvs hvl hcl hW1 hg;refine Calls.mono (R:=λe w'=>e=.returned (.slice (some ⟨w.heap.size,0,none⟩) (n+m) g)/\w'=W1) ?_ ?_
 ·go_enter Tryz.func203,Tryz.ntmps203
  go_wp2_with (at_builtin;refine Lib.wpList_append_run _ rfl _ _ _ _ rfl _ _ rfl rfl _ _ (hrun _) ?_)
  all_goals (go_ret;exact⟨rfl,rfl⟩)
 ·rintro e w' ⟨rfl,rfl⟩;exact⟨g,(Builtin.zeroCells (Value.agg zU.toArray).cells (g-(n+m))).toList,rfl,hge,by rw[hW.out];congr 2;apply Array.ext';simp⟩
theorem jS(sb:Option Addr)(vb voff m vc:Nat)(vs:List Value)(w:World)(hm:0<m)(hbig:m*64<=140737488355328)(hvl:vs.length=m*6)(hvs:Lies w vb voff vs):Calls Tryz.prog 203 #[.slice sb 0 0,.int .i64 0,.slice (some ⟨vb,voff,none⟩) m vc] w λe w'=>∃g us,e=.returned (.slice (some ⟨w.heap.size,0,none⟩) m g)/\m<=g/\w'=w.drew.alloc (.cells (vs++us).toArray 34):=by
 obtain⟨i0,hi0,hz0,hzs,hzb⟩:=Tm;have hz1:¬((m:Int)=0):=by omega
 have mixed:Tryz.prog.follows .mixedOrders=true:=by kernel_rfl
 obtain⟨g,hg⟩:∃g,g=grownCap w (0+m) 0 34:=⟨_,rfl⟩
 obtain⟨W1,hW1⟩:∃W1,W1=w.drew.alloc (.cells (([]:List Value).toArray++vs.toArray++Builtin.zeroCells (Value.agg zU.toArray).cells (g-(0+m))) 34):=⟨_,rfl⟩
 have hrun:∀ty,(Builtin.append_ #[26,26] ty #[.slice sb 0 0,.slice (some ⟨vb,voff,none⟩) m vc]).run Tryz.prog w=.ok (.slice (some ⟨w.heap.size,0,none⟩) m g) W1:=λty=>by have:=Hh (P:=Tryz.prog) (w:=w) 26 ty 34 i0 _ Tryz.underlying26 hi0 hz0 (sb:=sb) (olds:=[]) (.inl rfl) (.inr ⟨vb,voff,rfl,hvs⟩) 0 m 0 vc (by simp) (by rw[hvl,hzs]) (by omega) (by rw[hzb,sI];exact hbig) (by rw[hzb];decide);rw[this,hW1,hg,sI]
 have hge:m<=g:=by rw[hg];exact sN (by omega) (grownCap_ge w (0+m) 0 _)
 have hW:RowKit.Hid (W1=w.drew.alloc (.cells (([]:List Value).toArray++vs.toArray++Builtin.zeroCells (Value.agg zU.toArray).cells (g-(0+m))) 34)):=hW1;clear hvs hvl hW1 hg;refine Calls.mono (R:=λe w'=>e=.returned (.slice (some ⟨w.heap.size,0,none⟩) m g)/\w'=W1) ?_ ?_
 ·rcases sb with _|a
  ·go_enter Tryz.func203,Tryz.ntmps203
   go_wp2_with (at_builtin;refine Lib.wpList_append_run _ rfl _ _ _ _ rfl _ _ rfl rfl _ _ (hrun _) ?_)
   all_goals (go_ret;exact⟨rfl,rfl⟩)
  ·go_enter Tryz.func203,Tryz.ntmps203
   go_wp2_with (at_builtin;refine Lib.wpList_append_run _ rfl _ _ _ _ rfl _ _ rfl rfl _ _ (hrun _) ?_)
   all_goals (go_ret;exact⟨rfl,rfl⟩)
 ·rintro e w' ⟨rfl,rfl⟩;exact⟨g,(Builtin.zeroCells (Value.agg zU.toArray).cells (g-(0+m))).toList,rfl,hge,by rw[hW.out];congr 2;apply Array.ext';simp⟩
theorem dM(b off n c i vb voff m vc:Nat)(cs vs:List Value)(w:World)(hi:i<n)(hm:0<m)(hnc:n<=c)(hroom:c<n+m)(hbig:(n+m)*64<=140737488355328)(hcl:cs.length=n*6)(hvl:vs.length=m*6)(hcs:Lies w b off cs)(hvs:Lies w vb voff vs)(h1c:∀v∈cs,v.oneCell'=true)(h1v:∀v∈vs,v.oneCell'=true):Calls Tryz.prog 203 #[.slice (some ⟨b,off,none⟩) n c,.int .i64 i,.slice (some ⟨vb,voff,none⟩) m vc] w λe w'=>∃(g:Nat)(us:List Value),e=.returned (.slice (some ⟨w.heap.size,0,none⟩) (n+m) g)/\n+m<=g/\(n+m-i)*6<=us.length/\w'=(((w.alloc (.cells (cs.take (i*6)++us).toArray 34)).drew.setCells w.heap.size (i*6) vs).drew).setCells w.heap.size ((i+m)*6) (cs.drop (i*6)):=by
 have mixed:Tryz.prog.follows .mixedOrders=true:=by kernel_rfl
 obtain⟨i0,hi0,hz0,hzs,hzb⟩:=Tm;have hz1:¬((m:Int)=0):=by omega
 have hz2:¬((i:Int)=(n:Int)):=by omega
 have hz3:(c:Int)<(n:Int)+(m:Int):=by omega
 have hbw:b<w.heap.size:=block_lt_of_cell (hcs 0 _ (dY (by omega)));have hvw:vb<w.heap.size:=block_lt_of_cell (hvs 0 _ (dY (by omega)));have hkk:(n:Int)+(m:Int)-(i:Int)=((n+m-i:Nat):Int):=by omega
 have hik:i+(n+m-i)=n+m:=by omega
 have hold:(Builtin.firstCells i0.size i (.slice (some ⟨b,off,none⟩) i c)).run Tryz.prog w.drew=.ok (cs.take (i*6)).toArray w.drew:=by
  rw[hzs];exact run_firstCells_some w.drew 6 i ⟨b,off,none⟩ i c (cs.take (i*6)) (by rw[u9];omega) (λj v hj=>by
   rw[Addr.add_lit];rw[v9]at hj;split at hj
   ·exact hcs j v hj
   ·cases hj)
 obtain⟨G,hG⟩:∃G,G=grownCap w (n+m) c 34:=⟨_,rfl⟩
 obtain⟨us,hus⟩:∃us,us=(Builtin.zeroCells (Value.agg zU.toArray).cells (n+m-i)).toList++(Builtin.zeroCells (Value.agg zU.toArray).cells (G-(n+m))).toList:=⟨_,rfl⟩
 have hul:(n+m-i)*6<=us.length:=by rw[hus,nK,EJ];simp[Builtin.zeroCells,Value.cells,zU]
 obtain⟨W1,hW1⟩:∃W1,W1=w.drew.alloc (.cells (cs.take (i*6)++us).toArray 34):=⟨_,rfl⟩
 have hrz:∀ty,(Builtin.append_ #[26,3] ty #[.slice (some ⟨b,off,none⟩) i c,.int .i64 ((n:Int)+(m:Int)-(i:Int))]).run Tryz.prog w=.ok (.slice (some ⟨w.heap.size,0,none⟩) (n+m) G) W1:=λty=>by have h:=Lib.run_append_grow_zeros w 26 3 ty 34 i0 _ .i64 .i64 Tryz.underlying26 Tryz.underlying3 hi0 hz0 (some ⟨b,off,none⟩) i c (cs.take (i*6)) hold (n+m-i) (by omega) (by omega) (by omega) (by omega) (by rw[hzb];omega) (by rw[hzb,hik];exact growslice_fits hroom hbig);rw[hik]at h;rw[hkk,h,hW1,hus,hG];congr 3;simp
 have hRl:(n+m)*6<=(cs.take (i*6)++us).toArray.size:=by rw[List.size_toArray,nK,u9,hcl];omega
 have hN:∀j,j<(n+m)*6->(W1.cell? ⟨w.heap.size,j,none⟩).isSome=true:=λj hj=>by rw[hW1,World.cell?_alloc_at (w:=w.drew) _ _ w.heap.size j rfl,kC (by omega)];rfl
 have hNf:∀j,W1.frozen? ⟨w.heap.size,j,none⟩=false:=λj=>by rw[hW1];exact World.frozen?_alloc_at (w:=w.drew) _ _ w.heap.size j rfl
 have hOb:∀j v,w.cell? ⟨b,j,none⟩=some v->W1.cell? ⟨b,j,none⟩=some v:=λj v h=>by rw[hW1,World.cell?_alloc_past (w:=w.drew) _ b j hbw];exact h
 have hOv:∀j v,w.cell? ⟨vb,j,none⟩=some v->W1.cell? ⟨vb,j,none⟩=some v:=λj v h=>by rw[hW1,World.cell?_alloc_past (w:=w.drew) _ vb j hvw];exact h
 have hcpA:∀(ρ:World),(∀x,ρ.cell? x=W1.cell? x)->(∀x,ρ.frozen? x=W1.frozen? x)->∀ty dc,(Builtin.copy_ #[26,26] ty #[.slice (some ⟨w.heap.size,i*6,none⟩) (n+m-i) dc,.slice (some ⟨vb,voff,none⟩) m vc]).run Tryz.prog ρ=.ok (goInt m) (ρ.setCells w.heap.size (i*6) vs):=λρ hWc hWf ty dc=>
  H4 ρ _ _ ty 34 w.heap.size (i*6) (n+m-i) dc ⟨vb,voff,none⟩ m vc m vs Tryz.underlying26 hi0 (by simp only[Nat.min_def];split<;>omega) (by rw[hvl,hzs])
   (λj v hj=>by rw[Addr.add_lit,hWc];exact hOv _ v (hvs j v hj))
   (λj hj=>by rw[hvl]at hj;rw[hWc];exact hN _ (by omega)) (λj hj=>by rw[hWf];exact hNf _) h1v
 have hGn:n+m<=G:=by rw[hG];exact grownCap_ge w _ _ _
 have hG63:G<=9223372036854775807:=by have:=grownCap_le_maxLen w (n+m) c 34 (by unfold maxLen;omega);rw[<-hG]at this;unfold maxLen at this;omega
 have hGi:¬(G=i):=by omega
 have hGim:¬(G=i+m):=by omega
 have hci:¬(c=i):=by omega
 have hbN:b≠w.heap.size:=by omega
 have hdl:(cs.drop (i*6)).length=(n-i)*6:=by rw[tD,hcl,Nat.sub_mul]
 have hcpB:∀(ρ:World),(∀x,ρ.cell? x=(W1.setCells w.heap.size (i*6) vs).cell? x)->(∀x,ρ.frozen? x=(W1.setCells w.heap.size (i*6) vs).frozen? x)->∀ty dc sc,(Builtin.copy_ #[26,26] ty #[.slice (some ⟨w.heap.size,(i+m)*6,none⟩) (n+m-(i+m)) dc,.slice (some ⟨b,off+i*6,none⟩) (n-i) sc]).run Tryz.prog ρ=.ok (goInt ((n-i:Nat):Int)) (ρ.setCells w.heap.size ((i+m)*6) (cs.drop (i*6))):=λρ hWc hWf ty dc sc=>
  H4 ρ _ _ ty 34 w.heap.size ((i+m)*6) (n+m-(i+m)) dc ⟨b,off+i*6,none⟩ (n-i) sc (n-i) (cs.drop (i*6)) Tryz.underlying26 hi0 (by simp only[Nat.min_def];split<;>omega) (by rw[hdl,hzs])
   (λj v hj=>by rw[Addr.add_lit,hWc,World.cell?_setCells_out _ _ _ _ _ (λh _=>absurd h hbN),tV];exact hOb _ v (hcs (i*6+j) v (by rwa [Gd]at hj)))
   (λj hj=>by rw[hdl]at hj;rw[hWc];exact World.isSome_setCells _ _ _ _ _ (hN _ (by omega)))
   (λj hj=>by rw[hWf,World.frozen?_setCells];exact hNf _) (λv hv=>h1c v (H8 hv))
 refine Calls.mono (R:=λe w'=>e=.returned (.slice (some ⟨w.heap.size,0,none⟩) (n+m) G)/\w'=(((w.alloc (.cells (cs.take (i*6)++us).toArray 34)).drew.setCells w.heap.size (i*6) vs).drew).setCells w.heap.size ((i+m)*6) (cs.drop (i*6))) ?_ (λe w' hh=>⟨G,us,hh.1,hGn,hul,hh.2⟩);have hW:RowKit.Hid (W1=w.drew.alloc (.cells (cs.take (i*6)++us).toArray 34)):=hW1;obtain⟨ROW,hROW⟩:∃ROW:Array Value,ROW=(cs.take (i*6)++us).toArray:=⟨_,rfl⟩
 rw[<-hROW]at hW1⊢;subst hW1;have hE1:∀x,((w.alloc (.cells ROW 34)).drew).cell? x=(w.drew.alloc (.cells ROW 34)).cell? x:=λx=>rfl
 have hE2:∀x,((w.alloc (.cells ROW 34)).drew).frozen? x=(w.drew.alloc (.cells ROW 34)).frozen? x:=λx=>rfl
 have hF1:∀x,(((w.alloc (.cells ROW 34)).drew.setCells w.heap.size (i*6) vs).drew).cell? x=((w.drew.alloc (.cells ROW 34)).setCells w.heap.size (i*6) vs).cell? x:=λx=>rfl
 have hF2:∀x,(((w.alloc (.cells ROW 34)).drew.setCells w.heap.size (i*6) vs).drew).frozen? x=((w.drew.alloc (.cells ROW 34)).setCells w.heap.size (i*6) vs).frozen? x:=λx=>rfl
 have hw1:IntKind.i64.wrap ((i:Int)+(m:Int))=(i:Int)+(m:Int):=by rw[IntKind.wrap_i64];omega
 have hb1:(0:Int)<=(i:Int)+(m:Int):=by omega
 have hin:i<=n:=by omega
 have htn:((i:Int)+(m:Int)).toNat=i+m:=by omega
 have hb3:(i:Int)<=(n:Int):=by omega
 clear hkk hik hold hROW hG hRl hus hul hN hNf hOb hOv hdl hcs hvs h1c h1v hcl hvl hW
 go_enter Tryz.func203,Tryz.ntmps203
 go_wp2_with (first
  |(at_builtin;refine Lib.wpList_append_run _ rfl _ _ _ _ rfl _ _ rfl rfl _ _ (hrz _) ?_)
  |(at_builtin;refine wpList_copy_runI _ rfl _ _ 26 26 rfl _ _ rfl rfl (hcpA _ hE1 hE2 _ _) ?_))
 go_region_law_o (refine step_copy_runI rfl _ _ 26 26 rfl (.slice (some ⟨w.heap.size,(i+m)*6,none⟩) (n+m-(i+m)) (G-(i+m))) (.slice (some ⟨b,off+i*6,none⟩) (n-i) (c-i)) (by simp[Act.eval,Act.put]) (by simp[Act.eval,Act.put]) (hcpB _ hF1 hF2 3 (G-(i+m)) (c-i)) ?_)
 go_wp2
 go_ret
 exact⟨rfl,rfl⟩
