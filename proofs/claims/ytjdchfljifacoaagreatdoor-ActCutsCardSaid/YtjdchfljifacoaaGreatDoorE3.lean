import Derived.Test.YtjdchfljifacoaaGreatDoorAQ
set_option linter.all false
set_option maxRecDepth 100000
set_option maxHeartbeats 8000000
namespace Go.Proofs.YtjdchfljifacoaaGreatDoor.Am
section
open Go
theorem tC{P:Program}{op:Op}{sz:Nat}{zs:List AV}{x:Opd}(h:AK.clr sz zs x=cK P op):∃c y t e i,op=.call c/\c.callee=.builtin .clear/\c.args.toList=[y]/\c.argTypes.toList=[t]/\P.underlying t=some (.slice e)/\P.info? e=some i/\Gk P e=some zs/\0<i.size/\sz=i.size/\x=Al y:=by
 cases op with
 |call c=>simp only[cK,H9]at h;grind
 |_=>
  simp only[cK,Hk,E3,I9,Ja,Jb,Jc,KI,Jd]at h
  (repeat' (split at h))<;>cases h
theorem tD{P:Program}{op:Op}{sz:Nat}{x:Opd}{lo hi mx:Option Opd}(h:AK.slc sz x lo hi mx=cK P op):∃t y l u m e i,op=.slice t y l u m/\P.underlying t=some (.slice e)/\P.info? e=some i/\sz=i.size/\x=Al y/\lo=l.map Al/\hi=u.map Al/\mx=m.map Al:=by
 cases op with
 |slice t y l u m=>simp only[cK]at h;grind
 |call c=>
  simp only[cK,H9]at h
  (repeat' (split at h))<;>cases h
 |_=>
  simp only[cK,Hk,E3,I9,Ja,Jb,Jc,KI,Jd]at h
  (repeat' (split at h))<;>cases h
theorem mK{rows:List (List AV)}{sz k:Nat}{zs:List AV}(hr:∀r∈rows,r.length=sz)(hz:zs.length=sz):∀r∈rows.take k++List.replicate (rows.length-k) zs,r.length=sz:=by grind
theorem HInv.congr{U:Cf}{hp hp':Hp}(h:HInv U hp)(hh:∀l,hl hp' l=hl hp l):HInv U hp':=by
 have ho:∀p b,Owns U hp' p b->Owns U hp p b:=by
  rintro⟨k,m⟩ b (⟨h1,h2,j,c,hc⟩|⟨h1,⟨sz,rows,d,hc⟩,r⟩)
  ·exact .inl ⟨h1,h2,j,c,by rw[<-hh];exact hc⟩
  ·exact .inr ⟨h1,⟨sz,rows,d,by rw[<-hh];exact hc⟩,r⟩
 exact⟨by grind[h.ln,lenOf],λn j c hc=>h.cel n j c (by rw[<-hh];exact hc),λn sz live rows d hc=>h.arr n sz live rows d (by rw[<-hh];exact hc),λp q b hp hq=>h.inj p q b (ho p b hp) (ho q b hq),h.lt,h.ou,h.dis⟩
theorem mL{V:Ctx}(hΓ:V.OK)(i:Nat){rid:Nat}{ops:List AOp}{Q:AE->St->Prop}{e e1:Ar}{h h1:Hp}{c:Nat}{vc:Prop}{t sz sz2 l k:Nat}{zs:List AV}{x lo:Opd}{n:Nm}{rows:List (List AV)}{d:List AV}(hlen:ops.length=i+2)(hs:ops[i]? =some ⟨some t,none,.slc sz x (some lo) none none⟩)(hk:ops[i+1]? =some ⟨none,none,.clr sz2 zs (.t t)⟩)(hex:Bh V.S (c+1) (100*rid) (ops.take i) e h=some (vc,e1,h1))(hvc:vc)(hx:Ay true (Ax e1 x)=.own n l)(hn:hl h1 (.a n)=some (.sl sz true rows d))(hl':l=rows.length)(hlo:Ay true (Ax e1 lo)=.i k)(hkr:k<=rows.length)(hz:sz2=sz)(hsn:GG n=false)(hQ:Q .n ⟨(t,.un)::e1,(.a n,.sl sz true (rows.take k++List.replicate (rows.length-k) zs) d)::h1,c+1⟩):Aq V (.reg rid ops) Q ⟨e,h,c⟩:=by
 subst hz;intro code hc U a hA;cases code with
 |region id ops' d'=>
  simp only[cCode]at hc;obtain⟨l0,hx0,⟨rfl,e0⟩|⟨_,_,_,_,e0⟩⟩:=BM hc
  ·cases e0
   refine wpIn_region ?_;obtain⟨c1,c2⟩:=CM hx0;obtain⟨t1,t2⟩:=Cj i hx0;have hsz:ops.length=ops'.size:=c1.trans (by simp);have hi:i<ops'.size:=by omega
   have hi2:i+1<ops'.size:=by omega
   obtain⟨yo,g1,g2⟩:=c2 i ops'[i] (by simp);rw[hs]at g1;cases g1
   obtain⟨yo,g1,g3⟩:=c2 (i+1) ops'[i+1] (by simp);rw[hk]at g1;cases g1
   obtain⟨k1,k3,k4⟩:=M2 g2;obtain⟨m1,m3,m4⟩:=M2 g3;obtain⟨ty,y,lw,u,mx,e0,ti,o1,o2,o3,rfl,rfl,o6,o7,o8⟩:=tD k1;obtain⟨cl,z,ty2,e2,ti2,p1,p2,p3,p4,p5,p6,p7,p8,p9,p10⟩:=tC m1;have hlw:∃lv,lw=some lv/\lo=Al lv:=by cases lw<;>grind
   obtain⟨lv,rfl,rfl⟩:=hlw;have hu:u=none:=by cases u with
    |none=>rfl
    |some _=>cases o7
   have hmx:mx=none:=by cases mx with
    |none=>rfl
    |some _=>cases o8
   subst hu hmx;have hz:z=.tmp t:=by cases z<;>grind[Al]
   subst hz;obtain⟨ti3,zv,q1,q2,q3,q4,q5⟩:=Gm p7;rw[p6]at q1;cases q1
   have hr:List.range ops'.size=List.range' 0 (ops'.toList.take i).length++[i,i+1]:=by
    have e1:(ops'.toList.take i).length=i:=by simp;omega
    rw[e1,show ops'.size=i+1+1 by omega,List.range_succ,List.range_succ,A36,A06];rfl
   rw[hr];refine E0 hΓ (cnt:=c) (100*rid) e _ (ops'.toList.take i) 0 (ops.take i) U e e1 h h1 a vc (λ_ _=>rfl) (λj hj=>?_) t1 hex hvc hA.1 (λm hm=>.inl (hA.2.1 m hm)) λa1 σ1 ev1 hI1 hal1 hfar1=>?_
   ·have:j<i:=by simp at hj;omega
    simp[A27,this]
   rw[wpOpsIn_cons];have hw:=DA (ao:=none) hI1.t k4 rfl;have ho:ops'[i]? =some ops'[i]:=w7 hi;have ho2:ops'[i+1]? =some ops'[i+1]:=w7 hi2;have hX:=EZ (g:=true) rfl hI1.t y;rw[hx]at hX;have hv:=Hb hI1.h hn hX hl';have hL:=EZ (g:=true) rfl hI1.t lv;rw[hlo]at hL;obtain⟨a2,a3,a4,a5⟩:=hI1.h.arr n _ true rows d hn;obtain⟨vals,v1,v2,v3,v4,v5,v6⟩:=(hI1.h.arr n _ true rows d hn).vals;have hbd:=IW (P:=V.P) hL (n:=k) rfl rows.length .sliceB (by omega) (by omega) σ1.w;have hrun1:(execOp a1.eval ops'[i]).run V.P σ1.w=.ok (.value (.slice (if(σ1.ra n).2=k then(σ1.ra n).1 else(σ1.ra n).1.map (·.add (k*ti.size))) (rows.length-k) ((σ1.ra n).2-k))) σ1.w:=by simp[execOp,o1,Instr.sliceAt,Instr.slice,run_underlying o2,hv,Instr.sliceBounds,hbd,Ed o3]
   obtain⟨vv,hvv⟩:∃vv,vv=Value.slice (if(σ1.ra n).2=k then(σ1.ra n).1 else(σ1.ra n).1.map (·.add (k*ti.size))) (rows.length-k) ((σ1.ra n).2-k):=⟨_,rfl⟩
   rw[<-hvv]at hrun1;have hno:∀c,ops'[i].op≠.defer c:=λc hd=>by rw[o1]at hd;cases hd
   unfold wpOpIn;simp only[ho,hw,if_true];refine⟨λf _=>hΓ.F.fn f,?_⟩;rw[Oper.semAt_eq V.F.round a1.eval ops'[i] hno,hrun1];show wpOpsIn V.F 0 V.P ops' (lift V U Q) [i+1] (a1.put ops'[i].dst vv) σ1.w;have hdt:∀k,ops'[i].dst=some k->k<a1.tmps.size:=by rw[k3];intro d hd;rw[hI1.sz];exact C9 g2 d hd
   have hI2:Inv σ1 ((t,.un)::e1) h1 (a1.put ops'[i].dst vv) V.nt V.hb:=by
    have h2:=hI1.t.put (d:=ops'[i].dst) (v:=vv) (r:=.un) hdt (by simp[Rep]);rw[k3]at h2;refine⟨hI1.h,?_,by rw[Act.size_put];exact hI1.sz,?_⟩
    ·rw[k3];exact h2
    ·rw[Act.defers_put,show lk ((t,.un)::e1) (dk V.nt)=lk e1 (dk V.nt)from DL (d:=some t) (C9 g2) (by unfold dk;omega)];exact hI1.df
   have hev:(a1.put ops'[i].dst vv).eval (.tmp t)=vv:=by have htl:t<a1.tmps.size:=hdt t k3;rw[k3];simp[Act.eval,Act.put,htl]
   rw[wpOpsIn_cons];have hw2:=DA (ao:=none) hI2.t m4 rfl;have hno2:∀c,ops'[i+1].op≠.defer c:=λc hd=>by rw[p1]at hd;cases hd
   have ha:cl.args=#[.tmp t]:=by apply Array.ext';simpa using p3
   have hat:cl.argTypes=#[ty2]:=by apply Array.ext';simpa using p4
   obtain⟨hc1,hc2,hc3⟩:=PY (U:=σ1) p8 q3 q4 q5 (rows.length-k);have hzl:zs.length=ti2.size:=by rw[q5];simp[q4]
   have hzrun:∀w,(zeroValue e2).run V.P w=.ok zv w:=λw=>by simp[zeroValue,typeInfo,p6,q2]
   have hst:Step V.P ops'[i+1] (a1.put ops'[i].dst vv) σ1 (100*rid+(i+1),c+1) ((.a n,.sl ti.size true (rows.take k++List.replicate (rows.length-k) zs) d)::h1) .un:=by
    have hln:σ1.ln n=some rows.length:=by rw[hI1.h.ln];simp[lenOf,hn]
    have hr2:=mK (k:=k) v4 (show zs.length=ti.size by rw[hzl,p9]);have hlen2:(rows.take k++List.replicate (rows.length-k) zs).length=rows.length:=by simp;omega
    rcases A52 k rows.length with hlt|hge
    ·rcases a5 with⟨a0,a5,a6⟩|⟨b,o,cap,a5,a6,a7,a8,a9,_⟩
     ·rw[a6]at hlt;simp at hlt
     ·obtain⟨hM,ar,T,har,hfit⟩:=a9 rfl;rw[a5]at v3 hvv;have hLies:Lies σ1.w b o vals:=by
       rcases v3 with rfl|⟨b',o',r1,r2⟩
       ·intro j v hj;simp at hj
       ·simp at r1;rw[r1.1,r1.2];exact r2
      have hvv2:vv=.slice (some ⟨b,o+k*ti.size,none⟩) (rows.length-k) (cap-k):=by rw[hvv];simp only[Option.map_some];rw[t7 (by omega),HN]
      have hmul:rows.length*ti.size<=cap*ti.size:=A46 _ a7;have hks:k*ti.size+(rows.length-k)*ti.size=rows.length*ti.size:=by rw[<-Nat.add_mul];congr 1;omega
      have hzz:(Builtin.zeroCells zv.cells (rows.length-k)).toList.length=(rows.length-k)*ti.size:=by simp[size_zeroCells,q4,p9]
      have hsto:=GR (P:=V.P) (b:=b) (Builtin.zeroCells zv.cells (rows.length-k)).toList (o+k*ti.size) 0 σ1.w ar T har hc2 (by rw[hzz];omega);obtain⟨ds,d1,d2,d3⟩:=Gj (Builtin.zeroCells zv.cells (rows.length-k)).toList (o+k*ti.size) σ1.w ar har;have hown:Owns σ1 h1 (true,n) b:=.inr ⟨rfl,⟨_,_,_,hn⟩,o,cap,a5,a6⟩;have evo:Evo σ1 (σ1.setArr n (σ1.ra n) σ1.M (rows.take k++List.replicate (rows.length-k) zs).length (Fr σ1.w b (o+k*ti.size) (Builtin.zeroCells zv.cells (rows.length-k)).toList)):=by refine Evo.setArr (.inr ⟨_,hln,by omega,λ_=>rfl⟩) (λc ob hb hMc=>⟨?_,hMc⟩) (by rw[DP];exact w6 _) (HC _ _ _ _);rw[C2 (λ(e:c=b)=>hMc (by rw[e];exact hM))];exact hb
      have hcell:∀j,(Fr σ1.w b (o+k*ti.size) (Builtin.zeroCells zv.cells (rows.length-k)).toList).cell? ⟨b,j,none⟩=ds[j]? :=λj=>by simp[World.cell?,d1]
      have hold:∀j,σ1.w.cell? ⟨b,j,none⟩=ar[j]? :=λj=>by simp[World.cell?,har]
      refine .inl ⟨.tuple #[],_,_,.inl ?_,⟨evo,?_,rfl,λm hm=>.inl (hm.elim id λe=>e▸a2)⟩,by simp[Rep]⟩
      ·rw[A43]at hsto;obtain⟨q,hq⟩:∃q,rows.length-k=q+1:=⟨rows.length-k-1,by omega⟩
       rw[hq]at hsto hvv2⊢;rw[hvv2]at hev;simp[execOp,p1,resolve,p2,invoke,builtin,ha,hat,hev,hvv2,Builtin.clear_,run_underlying p5,hzrun,hsto,Cf.setArr]
      ·refine hI1.h.setArr evo (by grind[C2]) ⟨.inr rfl,a3,λe r hr=>?_,.inr ⟨b,o,cap,by simp[Cf.setArr,a5],a6,by omega,?_,λ_=>⟨hM,ds,T,d1,by rw[d2];exact hfit⟩,by simp⟩⟩
        (λ_ b' o' cap' g1 g2=>.inl (.inr ⟨rfl,⟨_,_,_,hn⟩,o',cap',g1,g2⟩)) (λc hc=>by rw[DP];exact hI1.h.lt c hc) (by rw[DP];exact w6 _)
       ·grind
       ·have e1:rows.flatten=(rows.take k).flatten++(rows.drop k).flatten:=by rw[<-List.flatten_append,A37]
        rw[e1]at v1;obtain⟨xs,ys,rfl,w1,w2⟩:=Ha v1;have hxl:xs.length=k*ti.size:=by rw[Bx w1,Mq λr hr=>v4 r (List.mem_of_mem_take hr),A23];congr 1;omega
        refine DQ (vs:=xs++(Builtin.zeroCells zv.cells (rows.length-k)).toList) ?_ ?_ ?_ hr2
        ·rw[List.flatten_append];exact Dz (RepL.mono evo _ _ w1) (RepL.mono evo _ _ hc1)
        ·grind
        ·intro j v hj;show(Fr σ1.w b (o+k*ti.size) (Builtin.zeroCells zv.cells (rows.length-k)).toList).cell? ⟨b,o+j,none⟩=some v;have hjl:=(y5.1 hj).1;rw[w9,hzz,hxl]at hjl;rw[hcell,d3];rcases A52 j (k*ti.size)with hjk|hjk
         ·rw[t7 (by omega),<-hold];rw[A31 (by omega)]at hj;exact hLies j v (by rw[A31 (by omega)];exact hj)
         ·rw[t8 ⟨by omega,by rw[hzz];omega,by omega⟩];rw[List.getElem?_append_right (by omega),hxl]at hj;rw[show o+j-(o+k*ti.size)=j-k*ti.size by omega];exact hj
    ·have hkk:k=rows.length:=by omega
     refine .inl ⟨.tuple #[],σ1.w,σ1,.inl ?_,⟨Evo.refl _,?_,rfl,λm hm=>.inl hm⟩,by simp[Rep]⟩
     ·obtain⟨B,C,hB⟩:∃B C,vv=.slice B 0 C:=⟨_,_,by rw[hvv,show rows.length-k=0 by omega]⟩
      rw[hB]at hev;cases B<;>simp[execOp,p1,resolve,p2,invoke,builtin,ha,hat,hev,hB,Builtin.clear_,run_underlying p5]
     ·rw[hkk];simp only[A56,Nat.sub_self,List.replicate_zero,A05];refine hI1.h.congr λq=>?_
      simp only[hl];split
      ·rename_i e;subst e;exact hn.symm
      ·rfl
   refine HP hΓ.F ho2 hno2 hw2 hst λv σ2 hn2 hv2=>?_
   have hI3:Inv σ2 ((t,.un)::e1) ((.a n,.sl ti.size true (rows.take k++List.replicate (rows.length-k) zs) d)::h1) ((a1.put ops'[i].dst vv).put ops'[i+1].dst v) V.nt V.hb:=by rw[m3];exact⟨hn2.inv,hI2.t.mono hn2.evo,hI2.sz,hI2.df.mono hn2.evo⟩
   exact⟨σ2,⟨(t,.un)::e1,_,c+1⟩,_,rfl,V.ofE (ev1.trans hn2.evo),⟨hI3,λm hm=>by
    show m.2<=c+1;rcases hn2.al m hm with hm|rfl
    ·rcases hal1 m hm with h|⟨h,_⟩<;>omega
    ·exact w6 _,V.g hA.2.2 (ev1.trans hn2.evo) λq hq=>.inr ((DL (d:=some t) (C9 g2) hq).trans (hfar1 q hq))⟩,rfl,hQ⟩
  ·cases e0
 |seq x y=>simp only[cCode]at hc;split at hc<;>simp at hc
 |cond c x y=>simp only[cCode]at hc;split at hc<;>simp at hc
 |rangeFunc f ps x y=>simp only[cCode]at hc;split at hc<;>simp at hc
 |_=>simp[cCode]at hc
theorem T5{V:Ctx}(hΓ:V.OK)(i:Nat){rid:Nat}{ops:List AOp}{Q:AE->St->Prop}{e e1:Ar}{h h1:Hp}{c:Nat}{vc:Prop}{t sz sz2 l:Nat}{k:Int}{zs:List AV}{x lo:Opd}{n:Nm}{rows:List (List AV)}{d:List AV}(hlen:ops.length=i+2)(hs:ops[i]? =some ⟨some t,none,.slc sz x (some lo) none none⟩)(hk:ops[i+1]? =some ⟨none,none,.clr sz2 zs (.t t)⟩)(hex:Bh V.S (c+1) (100*rid) (ops.take i) e h=some (vc,e1,h1))(hvc:vc)(hx:Ay true (Ax e1 x)=.own n l)(hn:hl h1 (.a n)=some (.sl sz true rows d))(hl':l=rows.length)(hlo:Ay true (Ax e1 lo)=.i k)(hkr:0<=k/\k<=rows.length)(hz:sz2=sz)(hsn:GG n=false)(hQ:Q .n ⟨(t,.un)::e1,(.a n,.sl sz true (rows.take k.toNat++List.replicate (rows.length-k.toNat) zs) d)::h1,c+1⟩):Aq V (.reg rid ops) Q ⟨e,h,c⟩:=by obtain⟨k,rfl⟩:=Int.eq_ofNat_of_zero_le hkr.1;exact mL hΓ i hlen hs hk hex hvc hx hn hl' hlo (by omega) hz hsn hQ
end
section
open Go
attribute [local irreducible] Aq BD Bv A8 Bq Ba AQ Bw By Ck
def D4(N:Nat)(s6209:List (Int×Int×Int×(List (Int×Int))×Int×Int)):Nat->Int->(List (Int×Int×Int×(List (Int×Int))×Int×Int))->Option ((List (Int×Int×Int×(List (Int×Int))×Int×Int)))|0,_,_=>none|n+1,x6234,l6235=>bif decide (x6234<(s6209.length:Int))then((Bz s6209 x6234).bind λ(x6236,x6237,x6238,x6239,x6240,x6241)=>(Bn N x6239).bind λr6243=>gd ((l6235.length+1)*64<=140737488355328)<|gd (Ai (x6234+1))<|D4 N s6209 n (x6234+1) (l6235++[(x6236,x6237,x6238,r6243,x6240,x6241)]))else(some l6235)
end
section
open Go
attribute [local irreducible] Aq BD Bv A8 Bq Ba AQ Bw By Ck
theorem Dt{P:Program}:∀f args vs vc r,Py f args vs=some (vc,r)->vc->C0 P f/\H7 P f args vs r:=λ_ _ _ _ _ h=>by cases h
theorem Du{P:Program}:∀f sz rows ax vc rows',NO f sz rows ax=some (vc,rows')->vc->C0 P f/\Kg P f sz rows ax rows'/\∀r∈rows',r.length=sz/\AA r=true:=λ_ _ _ _ _ _ h=>by cases h
theorem Dv{P:Program}:∀f args vs vc v,NN f args vs=some (vc,v)->vc->C0 P f/\O5 P f args vs v:=λ_ _ _ _ _ h=>by cases h
abbrev Mk:=Int×Int×Int×Int×Bool
theorem Ww{l:List Mk}:∀r∈l.map BW,AA r=true:=λr hr=>by obtain⟨x,_,rfl⟩:=List.mem_map.1 hr;rfl
theorem nF(l:List Mk)(hl:l.length*40<=140737488355328):GCall Tryz.prog 74 [Bj l] (λn=>[(.a n,EK l)]) (λn=>.own n l.length):=by
 have hS:=Ae (P:=Tryz.prog);have h:=Sm hS x74 (args:=[Bj l]) (pre:=[]) (d:=[.i 0,.i 0,.i 0,.i 0,.b false]) (sz:=5) (rows:=l.map BW) (A01 rfl) Ww λhb=>?_
 ·simp only[A04,Wm]at h;exact h
 have F:=f0;dsimp only[x74,Ad,Bj];cases l with
 |nil=>
  refine V5 0 (by show(0:Nat)<8;omega) (ev F) (λk=>?_) (λb k=>?_)
  ·refine go hS F ?_;refine ct F ?_;refine Co (iR (Ctx.fn_ok hS) (ev F) yT ?_);refine Dr ?_;refine HG 1 2 5 [.i 0,.i 0,.i 0,.i 0,.b false] (by show(2:Nat)<8;omega) (by omega) (ev F) ?_;refine CU (DF ?_);exact Gr (ev F) (ev F) ⟨_,[],rfl,ev F,trivial,rfl,trivial,trivial,rfl⟩
  ·refine go hS F ?_;refine cf F ?_;refine go hS F ?_;exact Gr (ev F) (ev F) ⟨_,[],rfl,ev F,trivial,rfl,trivial,trivial,rfl⟩
 |cons x l=>rw[A03]at hl;refine go hS F ?_;refine cf F ?_;refine go hS F ?_;exact Gr (ev F) (ev F) ⟨(300,3),[],by simp[one,Wm],ev F,trivial,rfl,trivial,trivial,rfl⟩
theorem GCall.argD{P:Program}{f:Nat}{args args':List AV}{ws:Nm->Hp}{g:Nm->AV}(hw:GH args args')(h:GCall P f args' ws g):GCall P f args ws g:=λU hp vs nm a b c d e=>h U hp vs nm a b c ((FL (U:=U) args args' vs hw).1 d) ((FL args args' vs hw).2 e)
def LA:Nat->List AV->Option (Prop×(Nm->Hp)×(Nm->AV)):=λf args=>if f=74 then(match args with|[.sl y _ s _]=>some (((y=5\/s=[])/\s=(s.map Eo).map BW)/\(s.map Eo).length*40<=140737488355328,λn=>[(.a n,EK (s.map Eo))],λn=>.own n (s.map Eo).length)|_=>none)else none
theorem Ur:∀f args vc ws g,LA f args=some (vc,ws,g)->vc->C0 Tryz.prog f/\GCall Tryz.prog f args ws g:=by
 intro f args vc ws g h hv;unfold LA at h;split at h
 ·rename_i hf;subst hf;split at h
  ·simp only[yE,A57]at h;obtain⟨rfl,rfl,rfl⟩:=h;obtain⟨⟨h1,h2⟩,h3⟩:=hv;refine⟨x74.ok,GCall.argD (show GH _ [Bj _]from⟨?_,trivial⟩) (nF _ h3)⟩;exact⟨by rw[<-h2];exact JM _,h1,λh=>by cases h⟩
  ·cases h
 ·cases h
def Fk(N:Nat)(us:List Un):Option (List Un):=D4 N us N 0 []
attribute [local go_sem] LA
theorem eB(N:Nat)(us r:List Un)(ms:List Mk)(hr:Fk N us=some r)(hm:ms.length*40<=140737488355328):GCall Tryz.prog 45 [.agg [Ao us,Bj ms]] (λn=>[(.a n,EK ms)]) (λn=>.agg [Ao r,.own n ms.length]):=by
 have hS:=Bl (Aa (S5 N)<|Ae) Dt Ur Du Dv;have h0:=Sm hS x45 (args:=[.agg [Ao us,Bj ms]]) (pre:=[Ao r]) (d:=[.i 0,.i 0,.i 0,.i 0,.b false]) (sz:=5) (rows:=ms.map BW) (A01 rfl) Ww λhb=>?_
 ·simp only[A04,Wm,A10,A02]at h0;exact h0
 have F:=f0;have h:=hr;unfold Fk at h;dsimp only[x45,Ad,Ao,Bj];refine go hS F ?_;refine Iv 1000001 (104,2) 0 6 [.i 0,.i 0,.i 0,.sl 0 true [] [],.i 0,.i 0] (by omega) (ev F) ?_;refine go hS F ?_;refine BU r (λz:(List (Int×Int×Int×(List (Int×Int))×Int×Int))×Nat=>⟨[(2,.box (1,1) 0),(3,.box (104,2) 0)],[(.c (104,2) 0,.own (1000001,4) z.1.length),(.c (104,2) 1,.own (102,2) ms.length),(.a (102,2),EK ms),(.a (1000001,4),Dm z.1),(.c (1,1) 0,.sl 0 true [] []),(.c (1,1) 1,.sl 0 true [] [])],z.2⟩) (λz=>(z.1:(List (Int×Int×Int×(List (Int×Int))×Int×Int)))) (.x 0) ?_ ?_
 ·refine BO (λn (y:Int×(List (Int×Int×Int×(List (Int×Int))×Int×Int))×Nat)=>D4 N us n y.1 y.2.1) (λy=>⟨[(2,.box (1,1) 0),(3,.box (104,2) 0),(12,Ao us),(13,.i (us.length:Int)),(14,.i y.1)],[(.c (104,2) 0,.own (1000001,4) y.2.1.length),(.c (104,2) 1,.own (102,2) ms.length),(.a (102,2),EK ms),(.a (1000001,4),Dm y.2.1),(.c (1,1) 0,.sl 0 true [] []),(.c (1,1) 1,.sl 0 true [] [])],y.2.2⟩) (0,[],4) h (CB F) ?_;rintro n ⟨So,l27,c25⟩ hB2;simp only[D4]at hB2;refine An hS F hB2 (λ_ hB2=>?_) (λ_ hB2=>?_)
  ·obtain⟨⟨Sp,Sq,Sr,K2,Ss,Wn⟩,hn33,hB2⟩:=un hB2;obtain⟨hb33,F⟩:=CH Ap hn33 F;obtain⟨r35,hr35,hv3,hv4,hB2⟩:=un hB2;exact CS hS (fc hr35 F) (n,So+1,l27++[(Sp,Sq,Sr,r35,Ss,Wn)],c25+1+1+1+1+1) hB2
  ·exact Cu hS F (l27,c25+1) hB2
 ·rintro⟨l41,c40⟩ rfl;refine go hS F ?_;exact Gr (ev F) (ev F) ⟨(102,2),[.own (1000001,4) l41.length],by simp[one,Wm],ev F,by simp only[go_sem,seval],rfl,by simp[VJ,Dy,Fl],by simp only[go_sem,seval],by simp only[go_sem,seval]⟩
end
section
theorem kN{N:Nat}{c n:Int}(hc:Ai c)(hn:0<n):Dw N c n=some (pk c n):=by
 unfold Dw pk;by_cases h:c<0
 ·rw[q9 h,cT,t8 h,Ab (by omega),Ab (by omega),Ab (by omega)]
 ·rw[s6 h,cF,t7 h,Ab (by omega)]
theorem aP{N:Nat}{c n:Int}(hc:Ai c)(hn:0<n):CY N c n=some (pk c n):=by
 unfold CY pk;by_cases h:c<0
 ·rw[q9 h,cT,t8 h,Ab (by omega),Ab (by omega),Ab (by omega)]
 ·rw[s6 h,cF,t7 h,Ab (by omega)]
def PO(m:Mk):Bool:=(((decide (0<=m.1)&&decide (m.1<=99))&&(decide (0<=m.2.1)&&decide (m.2.1<=99)))&&(decide (-2<=m.2.2.1)&&decide (m.2.2.1<=7)))&&(decide (1<=m.2.2.2.1)&&decide (m.2.2.2.1<=5))
theorem kP{m:Mk}:PO m=true↔(0<=m.1/\m.1<=99)/\(0<=m.2.1/\m.2.1<=99)/\(-2<=m.2.2.1/\m.2.2.1<=7)/\(1<=m.2.2.2.1/\m.2.2.2.1<=5):=by simp_all[PO,and_assoc]
theorem OT(N:Nat)(a b c d:Int)(o:Bool):F8 N a b c d o=some (PO (a,b,c,d,o)):=by unfold F8 B9 Bs PO;simp only[bS];rw[BY (by grind),BY (by grind),BY (by grind)];rfl
structure MV(f:List Un)(ms:List Mk):Prop where
 len:ms.length<=20
 ok:∀m∈ms,PO m=true
 on:∀m∈ms,∃u∈f,u.1=m.2.1/\m.2.2.1<(u.2.2.2.1.length:Int)
 srt:ms.Pairwise λa b=>a.1<b.1
noncomputable instance(f:List Un)(ms:List Mk):Decidable (MV f ms):=Classical.propDecidable _
def SV(f:List Un)(ms:List Mk):Prop:=FV f/\MV f ms
noncomputable instance(f:List Un)(ms:List Mk):Decidable (SV f ms):=Classical.propDecidable _
def WT:Mk:=(0,0,0,0,false)
def CI(ms:List Mk)(k:Nat):Mk:=ms.getD k (0,0,0,0,false)
theorem GP{ms:List Mk}{k:Nat}(h:k<ms.length):Bz ms (k:Int)=some ((CI ms k).1,(CI ms k).2.1,(CI ms k).2.2.1,(CI ms k).2.2.2.1,(CI ms k).2.2.2.2):=by rw[MJ (0,0,0,0,false) (by omega) (by omega),A19];rfl
theorem G3{ms:List Mk}{k:Nat}(h:k<ms.length):CI ms k=ms[k]:=by grind[CI]
theorem Kc{ms:List Mk}{k:Nat}(h:k<ms.length):CI ms k∈ms:=by rw[G3 h];exact by grind
theorem MR{ms:List Mk}{m:Mk}(h:m∈ms):∃k,k<ms.length/\CI ms k=m:=by obtain⟨k,hk,e⟩:=List.mem_iff_getElem.1 h;exact⟨k,hk,(G3 hk).trans e⟩
theorem KF{ms:List Mk}{R:Mk->Mk->Prop}:ms.Pairwise R↔∀i k,i<k->k<ms.length->R (CI ms i) (CI ms k):=by rw[List.pairwise_iff_getElem];grind[G3]
theorem oT{ms:List Mk}(h:∀k,0<k->k<ms.length->(CI ms (k-1)).1<(CI ms k).1):ms.Pairwise λa b=>a.1<b.1:=by rw[KF];intro i k hik hk;induction k<;>grind
def NJ(ms:List Mk)(x:Int):Int:=if x<=0 then-1 else(CI ms (x-1).toNat).1
theorem RY(ms:List Mk)(k:Nat):NJ ms ((k+1:Nat):Int)=(CI ms k).1:=by unfold NJ;rw[t7 (by omega),show((k+1:Nat):Int)-1=(k) by omega,A19]
def kQ(f:List Un)(m:Mk):Bool:=f.any λu=>decide (u.1=m.2.1)&&decide (m.2.2.1<(u.2.2.2.1.length:Int))
theorem XX{f:List Un}{m:Mk}:kQ f m=true↔∃u∈f,u.1=m.2.1/\m.2.2.1<(u.2.2.2.1.length:Int):=by simp_all[kQ]
theorem U6{f:List Un}(hf:FV f)(m:Mk):kQ f m=((FD f m.2.1).2&& !decide (((FD f m.2.1).1.2.2.2.1.length:Int)<=m.2.2.1)):=by
 rw[A49,XX];unfold FD;rw[t8 hf];by_cases c:∃u∈f,u.1=m.2.1
 ·obtain⟨u,hu,e⟩:=c;obtain⟨k,hk,rfl⟩:=Ix hu;rw[<-e,RP hf hk];simp only[A60,A28,s8,Int.not_le];constructor
  ·rintro⟨v,hv,e2,h⟩;obtain⟨j,hj,rfl⟩:=Ix hv;rw[hf.uniq hj hk e2]at h;exact h
  grind
 grind
def JG(f:List Un)(ms:List Mk)(k:Nat):Bool:=(kQ f (CI ms k)&&PO (CI ms k))&&decide (NJ ms k<(CI ms k).1)
theorem U7{f:List Un}{ms:List Mk}:(∀k,k<ms.length->JG f ms k=true)/\ms.length<=20↔MV f ms:=by
 constructor
 ·rintro⟨h,hl⟩;refine⟨hl,λm hm=>?_,λm hm=>?_,oT λk h0 hk=>?_⟩
  ·obtain⟨k,hk,rfl⟩:=MR hm;have:=h k hk;simp_all[JG]
  ·obtain⟨k,hk,rfl⟩:=MR hm;have:=h k hk;simp_all[JG,XX]
  ·have:=h k hk;unfold JG at this;simp only[y8,s7]at this;obtain⟨j,rfl⟩:∃j,k=j+1:=⟨k-1,by omega⟩
   rw[RY]at this;exact this.2
 ·rintro⟨h1,h2,h3,h4⟩;refine⟨λk hk=>?_,h1⟩;unfold JG;simp only[y8,s7];refine⟨⟨XX.2 (h3 _ (Kc hk)),h2 _ (Kc hk)⟩,?_⟩;cases k with
  |zero=>have:=kP.1 (h2 _ (Kc hk));unfold NJ;omega
  |succ k=>rw[RY];simp_all[KF]
section
variable{N:Nat}(hN:1001<=N)
include hN
theorem LU(f:List Un)(t:Int):BV N f t=some (((FD f t).1.1,(FD f t).1.2.1,(FD f t).1.2.2.1,(FD f t).1.2.2.2.1,(FD f t).1.2.2.2.2.1,(FD f t).1.2.2.2.2.2),(FD f t).2):=Aa0 hN f t
theorem SM{f:List Un}(hf:FV f){ms:List Mk}(hl:ms.length<=1000):Cz N f ms=some (decide (MV f ms)):=by
 have F:=HK (L:=λn x=>El N ms f n (NJ ms x) x) (len:=ms.length) (λk=>bif JG f ms k then none else some false) (λn k hk e=>?_) (λn k r hk e=>?_) (λn=>?_) N (by omega)
 ·unfold Cz;rw[show(-1:Int)=NJ ms 0 by unfold NJ;rw[t8 (Int.le_refl _)]];rcases F with⟨e,h⟩|⟨j,r,hj,h,_,e⟩
  ·rw[e,bS];simp only;congr 1;rw[A49,s7,s7,<-U7];grind
  ·rw[e,bS];cases c:JG f ms j with
   |true=>rw[c,cT]at h;cases h
   |false=>rw[c,cF]at h;grind[U7]
 all_goals try simp only
 ·cases c:JG f ms k with
  |false=>rw[c,cF]at e;cases e
  |true=>
   rw[El,Fe hk,cT,GP hk,bS];simp only;rw[LU hN,bS,OT];simp only;rw[BY (by grind),A00,BL _ ?_,Ab (by unfold Ai;omega),RY,ns]
   simp_all[JG,U6]
 ·cases c:JG f ms k with
  |true=>rw[c,cT]at e;cases e
  |false=>
   rw[c,cF]at e;cases e
   rw[El,Fe hk,cT,GP hk,bS];simp only;rw[LU hN,bS,OT];rw[BY (by grind),A00,Ca _ ?_];unfold JG at c;rw[U6 hf]at c;grind
 ·rw[El,K3,cF]
theorem aQ(f:List Un){ms:List Mk}(hl:ms.length<=1000):CP N f ms=some (decide (SV f ms)):=by
 unfold CP;rw[UM hN,bS];by_cases h:FV f
 ·rw[SM hN h hl,BY (by grind),A00];congr 1;rw[A49];simp;rfl
 ·rw[s6 h,BY (by grind),s6 λv=>h v.1,Bool.false_and]
end
end
open Go
attribute [local irreducible] Aq BD Bv A8 Bq Ba AQ Bw By Ck
def IC(N:Nat)(aa:Int)(s356:List UInt8):Nat->Int->Int->Option (Sum Unit ((Int×Int×Int)))|0,_,_=>none|n+1,af,ab=>bif decide (ab<9)then(gd (Ai (aa+ab))<|bif decide ((s356.length:Int)<=aa+ab)then(some (.inl ()))else(gd (Ai (aa+ab))<|gd (0<=aa+ab/\aa+ab<(s356.length:Int))<|gd (Ai (7*ab))<|gd (0<=7*ab)<|bif decide (128<=((s356.getD (aa+ab).toNat 0).toNat:Int))then(gd (Ai (ab+1))<|IC N aa s356 n (Ei .or .u64 af (D5 .shl .u64 (IntKind.wrap .u64 (Ei .and .u8 ((s356.getD (aa+ab).toNat 0).toNat:Int) 127)) (7*ab))) (ab+1))else(gd (Ai (-(IntKind.wrap .i64 (Ei .and .u64 (Ei .or .u64 af (D5 .shl .u64 (IntKind.wrap .u64 (Ei .and .u8 ((s356.getD (aa+ab).toNat 0).toNat:Int) 127)) (7*ab))) 1))))<|bif ((decide (((s356.getD (aa+ab).toNat 0).toNat:Int)=0))&&(decide (0<ab)))||(decide (Ei .xor .i64 (IntKind.wrap .i64 (D5 .shr .u64 (Ei .or .u64 af (D5 .shl .u64 (IntKind.wrap .u64 (Ei .and .u8 ((s356.getD (aa+ab).toNat 0).toNat:Int) 127)) (7*ab))) 1)) (-(IntKind.wrap .i64 (Ei .and .u64 (Ei .or .u64 af (D5 .shl .u64 (IntKind.wrap .u64 (Ei .and .u8 ((s356.getD (aa+ab).toNat 0).toNat:Int) 127)) (7*ab))) 1)))<(-4611686018427387903)))then(some (.inl ()))else(gd (Ai (aa+ab))<|gd (Ai ((aa+ab)+1))<|some (.inr (Ei .xor .i64 (IntKind.wrap .i64 (D5 .shr .u64 (Ei .or .u64 af (D5 .shl .u64 (IntKind.wrap .u64 (Ei .and .u8 ((s356.getD (aa+ab).toNat 0).toNat:Int) 127)) (7*ab))) 1)) (-(IntKind.wrap .i64 (Ei .and .u64 (Ei .or .u64 af (D5 .shl .u64 (IntKind.wrap .u64 (Ei .and .u8 ((s356.getD (aa+ab).toNat 0).toNat:Int) 127)) (7*ab))) 1))),(aa+ab)+1,0))))))else(some (.inl ()))
def BJ(N:Nat)(s356:List UInt8)(aa:Int):Option (Int×Int×Int):=bif (decide (aa<0))||(decide ((s356.length:Int)<aa))then(some (0,0,2))else((IC N aa s356 N 0 0).bind λai=>match ai with|.inl ()=>(some (0,0,10))|.inr aj=>(some aj))
@[go_sem] def uV(N:Nat):Spec:=p0<|(qT<|qI<|qE<|qF (0,0,0) λr=>.tup [.i r.1,.i r.2.1,.i r.2.2]) (BJ N)
theorem XE(N:Nat):Au Tryz.prog 49 (uV N):=by
 refine fk (wX x49 (Ae)) ?_;intro s356 aa r h _ hS F;dsimp only[x49,Ad];unfold BJ at h;refine An hS F h (λ_ h=>?_) (λ_ h=>?_)
 ·exact Ah hS F h
 ·obtain⟨ai,an,h⟩:=un h;refine go hS F ?_;refine BU ai (λz:Nat=>⟨[],[],z⟩) (λz=>(.inl ():Sum Unit ((Int×Int×Int)))) (.x 0) ?_ ?_
  ·refine BO (λn (y:Int×Int×Nat)=>IC N aa s356 n y.1 y.2.1) (λy=>⟨[(0,.v (.string (sB s356))),(1,.i aa),(7,.v (.int .u64 y.1)),(19,.i y.2.1)],[],y.2.2⟩) (0,0,4) an (CB F) ?_;rintro n ⟨af,ab,ah⟩ ae;simp only[IC]at ae;refine An hS F ae (λ_ ae=>?_) (λ_ ae=>?_)
   ·obtain⟨bb,ae⟩:=un ae;refine An hS F ae (λ_ ae=>?_) (λ_ ae=>?_)
    ·exact Cu hS F (ah+1+1+1) ae
    ·obtain⟨ba,az,ay,aw,ae⟩:=un ae;refine An hS F ae (λ_ ae=>?_) (λ_ ae=>?_)
     ·obtain⟨av,ae⟩:=un ae;exact CS hS F (n,Ei .or .u64 af (D5 .shl .u64 (IntKind.wrap .u64 (Ei .and .u8 ((s356.getD (aa+ab).toNat 0).toNat:Int) 127)) (7*ab)),ab+1,ah+1+1+1+1+1+1+1) ae
     ·obtain⟨au,ae⟩:=un ae;refine An hS F ae (λ_ ae=>?_) (λ_ ae=>?_)
      ·exact Cu hS F (ah+1+1+1+1+1+1+1+1) ae
      ·obtain⟨am,ak,ae⟩:=un ae;obtain rfl:=yJ ae;exact Ah hS F h
   ·exact Cu hS F (ah+1) ae
  ·rintro aq rfl;exact Ah hS F h
