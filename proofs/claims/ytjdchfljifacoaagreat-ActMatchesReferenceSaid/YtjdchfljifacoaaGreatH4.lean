import Derived.Test.YtjdchfljifacoaaGreatAQ
set_option linter.all false
set_option maxRecDepth 100000
set_option maxHeartbeats 8000000
namespace Go.Proofs.YtjdchfljifacoaaGreat.Am
section
open Go
theorem xN{P:Program}{op:Op}{sz:Nat}{zs:List AV}{x:Opd}(h:AK.clr sz zs x=cK P op):∃c y t e i,op=.call c/\c.callee=.builtin .clear/\c.args.toList=[y]/\c.argTypes.toList=[t]/\P.underlying t=some (.slice e)/\P.info? e=some i/\HQ P e=some zs/\0<i.size/\sz=i.size/\x=Av y:=by
 cases op with
 |call c=>simp only[cK,Ih]at h;grind
 |_=>
  simp only[cK,Hl,EI,Jm,Jn,Jo,Jp,KG,Jq]at h
  (repeat' (split at h))<;>cases h
theorem xO{P:Program}{op:Op}{sz:Nat}{x:Opd}{lo hi mx:Option Opd}(h:AK.slc sz x lo hi mx=cK P op):∃t y l u m e i,op=.slice t y l u m/\P.underlying t=some (.slice e)/\P.info? e=some i/\sz=i.size/\x=Av y/\lo=l.map Av/\hi=u.map Av/\mx=m.map Av:=by
 cases op with
 |slice t y l u m=>simp only[cK]at h;grind
 |call c=>
  simp only[cK,Ih]at h
  (repeat' (split at h))<;>cases h
 |_=>
  simp only[cK,Hl,EI,Jm,Jn,Jo,Jp,KG,Jq]at h
  (repeat' (split at h))<;>cases h
theorem rY{rows:List (List AV)}{sz k:Nat}{zs:List AV}(hr:∀r∈rows,r.length=sz)(hz:zs.length=sz):∀r∈rows.take k++List.replicate (rows.length-k) zs,r.length=sz:=by grind
theorem HInv.congr{U:Cf}{hp hp':Hp}(h:HInv U hp)(hh:∀l,hl hp' l=hl hp l):HInv U hp':=by
 have ho:∀p b,Owns U hp' p b->Owns U hp p b:=by
  rintro⟨k,m⟩ b (⟨h1,h2,j,c,hc⟩|⟨h1,⟨sz,rows,d,hc⟩,r⟩)
  ·exact .inl ⟨h1,h2,j,c,by rw[<-hh];exact hc⟩
  ·exact .inr ⟨h1,⟨sz,rows,d,by rw[<-hh];exact hc⟩,r⟩
 exact⟨by grind[h.ln,lenOf],λn j c hc=>h.cel n j c (by rw[<-hh];exact hc),λn sz live rows d hc=>h.arr n sz live rows d (by rw[<-hh];exact hc),λp q b hp hq=>h.inj p q b (ho p b hp) (ho q b hq),h.lt,h.ou,h.dis⟩
theorem rZ{V:Ctx}(hΓ:V.OK)(i:Nat){rid:Nat}{ops:List AOp}{Q:AE->St->Prop}{e e1:Az}{h h1:Hp}{c:Nat}{vc:Prop}{t sz sz2 l k:Nat}{zs:List AV}{x lo:Opd}{n:Nm}{rows:List (List AV)}{d:List AV}(hlen:ops.length=i+2)(hs:ops[i]? =some ⟨some t,none,.slc sz x (some lo) none none⟩)(hk:ops[i+1]? =some ⟨none,none,.clr sz2 zs (.t t)⟩)(hex:Bg V.S (c+1) (100*rid) (ops.take i) e h=some (vc,e1,h1))(hvc:vc)(hx:AJ true (AI e1 x)=.own n l)(hn:hl h1 (.a n)=some (.sl sz true rows d))(hl':l=rows.length)(hlo:AJ true (AI e1 lo)=.i k)(hkr:k<=rows.length)(hz:sz2=sz)(hsn:HF n=false)(hQ:Q .n ⟨(t,.un)::e1,(.a n,.sl sz true (rows.take k++List.replicate (rows.length-k) zs) d)::h1,c+1⟩):Ax V (.reg rid ops) Q ⟨e,h,c⟩:=by
 subst hz;intro code hc U a hA;cases code with
 |region id ops' d'=>
  simp only[cCode]at hc;obtain⟨l0,hx0,⟨rfl,e0⟩|⟨_,_,_,_,e0⟩⟩:=Cc hc
  ·cases e0
   refine wpIn_region ?_;obtain⟨c1,c2⟩:=C9 hx0;obtain⟨t1,t2⟩:=CE i hx0;have hsz:ops.length=ops'.size:=c1.trans (by simp);have hi:i<ops'.size:=by omega
   have hi2:i+1<ops'.size:=by omega
   obtain⟨yo,g1,g2⟩:=c2 i ops'[i] (by simp);rw[hs]at g1;cases g1
   obtain⟨yo,g1,g3⟩:=c2 (i+1) ops'[i+1] (by simp);rw[hk]at g1;cases g1
   obtain⟨k1,k3,k4⟩:=OR g2;obtain⟨m1,m3,m4⟩:=OR g3;obtain⟨ty,y,lw,u,mx,e0,ti,o1,o2,o3,rfl,rfl,o6,o7,o8⟩:=xO k1;obtain⟨cl,z,ty2,e2,ti2,p1,p2,p3,p4,p5,p6,p7,p8,p9,p10⟩:=xN m1;have hlw:∃lv,lw=some lv/\lo=Av lv:=by cases lw<;>grind
   obtain⟨lv,rfl,rfl⟩:=hlw;have hu:u=none:=by cases u with
    |none=>rfl
    |some _=>cases o7
   have hmx:mx=none:=by cases mx with
    |none=>rfl
    |some _=>cases o8
   subst hu hmx;have hz:z=.tmp t:=by cases z<;>grind[Av]
   subst hz;obtain⟨ti3,zv,q1,q2,q3,q4,q5⟩:=HR p7;rw[p6]at q1;cases q1
   have hr:List.range ops'.size=List.range' 0 (ops'.toList.take i).length++[i,i+1]:=by
    have e1:(ops'.toList.take i).length=i:=by simp;omega
    rw[e1,show ops'.size=i+1+1 by omega,List.range_succ,List.range_succ,y7,qZ];rfl
   rw[hr];refine F6 hΓ (cnt:=c) (100*rid) e _ (ops'.toList.take i) 0 (ops.take i) U e e1 h h1 a vc (λ_ _=>rfl) (λj hj=>?_) t1 hex hvc hA.1 (λm hm=>.inl (hA.2.1 m hm)) λa1 σ1 ev1 hI1 hal1 hfar1=>?_
   ·have:j<i:=by simp at hj;omega
    simp[w5,this]
   rw[wpOpsIn_cons];have hw:=D6 (ao:=none) hI1.t k4 rfl;have ho:ops'[i]? =some ops'[i]:=iW hi;have ho2:ops'[i+1]? =some ops'[i+1]:=iW hi2;have hX:=EO (g:=true) rfl hI1.t y;rw[hx]at hX;have hv:=Hi hI1.h hn hX hl';have hL:=EO (g:=true) rfl hI1.t lv;rw[hlo]at hL;obtain⟨a2,a3,a4,a5⟩:=hI1.h.arr n _ true rows d hn;obtain⟨vals,v1,v2,v3,v4,v5,v6⟩:=(hI1.h.arr n _ true rows d hn).vals;have hbd:=KP (P:=V.P) hL (n:=k) rfl rows.length .sliceB (by omega) (by omega) σ1.w;have hrun1:(execOp a1.eval ops'[i]).run V.P σ1.w=.ok (.value (.slice (if(σ1.ra n).2=k then(σ1.ra n).1 else(σ1.ra n).1.map (·.add (k*ti.size))) (rows.length-k) ((σ1.ra n).2-k))) σ1.w:=by simp[execOp,o1,Instr.sliceAt,Instr.slice,run_underlying o2,hv,Instr.sliceBounds,hbd,EP o3]
   obtain⟨vv,hvv⟩:∃vv,vv=Value.slice (if(σ1.ra n).2=k then(σ1.ra n).1 else(σ1.ra n).1.map (·.add (k*ti.size))) (rows.length-k) ((σ1.ra n).2-k):=⟨_,rfl⟩
   rw[<-hvv]at hrun1;have hno:∀c,ops'[i].op≠.defer c:=λc hd=>by rw[o1]at hd;cases hd
   unfold wpOpIn;simp only[ho,hw,if_true];refine⟨λf _=>hΓ.F.fn f,?_⟩;rw[Oper.semAt_eq V.F.round a1.eval ops'[i] hno,hrun1];show wpOpsIn V.F 0 V.P ops' (lift V U Q) [i+1] (a1.put ops'[i].dst vv) σ1.w;have hdt:∀k,ops'[i].dst=some k->k<a1.tmps.size:=by rw[k3];intro d hd;rw[hI1.sz];exact DA g2 d hd
   have hI2:Inv σ1 ((t,.un)::e1) h1 (a1.put ops'[i].dst vv) V.nt V.hb:=by
    have h2:=hI1.t.put (d:=ops'[i].dst) (v:=vv) (r:=.un) hdt (by simp[Rep]);rw[k3]at h2;refine⟨hI1.h,?_,by rw[Act.size_put];exact hI1.sz,?_⟩
    ·rw[k3];exact h2
    ·rw[Act.defers_put,show lk ((t,.un)::e1) (dk V.nt)=lk e1 (dk V.nt)from Ee (d:=some t) (DA g2) (by unfold dk;omega)];exact hI1.df
   have hev:(a1.put ops'[i].dst vv).eval (.tmp t)=vv:=by have htl:t<a1.tmps.size:=hdt t k3;rw[k3];simp[Act.eval,Act.put,htl]
   rw[wpOpsIn_cons];have hw2:=D6 (ao:=none) hI2.t m4 rfl;have hno2:∀c,ops'[i+1].op≠.defer c:=λc hd=>by rw[p1]at hd;cases hd
   have ha:cl.args=#[.tmp t]:=by apply Array.ext';simpa using p3
   have hat:cl.argTypes=#[ty2]:=by apply Array.ext';simpa using p4
   obtain⟨hc1,hc2,hc3⟩:=Rz (U:=σ1) p8 q3 q4 q5 (rows.length-k);have hzl:zs.length=ti2.size:=by rw[q5];simp[q4]
   have hzrun:∀w,(zeroValue e2).run V.P w=.ok zv w:=λw=>by simp[zeroValue,typeInfo,p6,q2]
   have hst:Step V.P ops'[i+1] (a1.put ops'[i].dst vv) σ1 (100*rid+(i+1),c+1) ((.a n,.sl ti.size true (rows.take k++List.replicate (rows.length-k) zs) d)::h1) .un:=by
    have hln:σ1.ln n=some rows.length:=by rw[hI1.h.ln];simp[lenOf,hn]
    have hr2:=rY (k:=k) v4 (show zs.length=ti.size by rw[hzl,p9]);have hlen2:(rows.take k++List.replicate (rows.length-k) zs).length=rows.length:=by simp;omega
    rcases Ke k rows.length with hlt|hge
    ·rcases a5 with⟨a0,a5,a6⟩|⟨b,o,cap,a5,a6,a7,a8,a9,_⟩
     ·rw[a6]at hlt;simp at hlt
     ·obtain⟨hM,ar,T,har,hfit⟩:=a9 rfl;rw[a5]at v3 hvv;have hLies:Lies σ1.w b o vals:=by
       rcases v3 with rfl|⟨b',o',r1,r2⟩
       ·intro j v hj;simp at hj
       ·simp at r1;rw[r1.1,r1.2];exact r2
      have hvv2:vv=.slice (some ⟨b,o+k*ti.size,none⟩) (rows.length-k) (cap-k):=by rw[hvv];simp only[tG];rw[dQ (by omega),Jl]
      have hmul:rows.length*ti.size<=cap*ti.size:=HK _ a7;have hks:k*ti.size+(rows.length-k)*ti.size=rows.length*ti.size:=by rw[<-Nat.add_mul];congr 1;omega
      have hzz:(Builtin.zeroCells zv.cells (rows.length-k)).toList.length=(rows.length-k)*ti.size:=by simp[size_zeroCells,q4,p9]
      have hsto:=Il (P:=V.P) (b:=b) (Builtin.zeroCells zv.cells (rows.length-k)).toList (o+k*ti.size) 0 σ1.w ar T har hc2 (by rw[hzz];omega);obtain⟨ds,d1,d2,d3⟩:=HO (Builtin.zeroCells zv.cells (rows.length-k)).toList (o+k*ti.size) σ1.w ar har;have hown:Owns σ1 h1 (true,n) b:=.inr ⟨rfl,⟨_,_,_,hn⟩,o,cap,a5,a6⟩;have evo:Evo σ1 (σ1.setArr n (σ1.ra n) σ1.M (rows.take k++List.replicate (rows.length-k) zs).length (GC σ1.w b (o+k*ti.size) (Builtin.zeroCells zv.cells (rows.length-k)).toList)):=by refine Evo.setArr (.inr ⟨_,hln,by omega,λ_=>rfl⟩) (λc ob hb hMc=>⟨?_,hMc⟩) (by rw[Em];exact fW _) (I3 _ _ _ _);rw[Dt (λ(e:c=b)=>hMc (by rw[e];exact hM))];exact hb
      have hcell:∀j,(GC σ1.w b (o+k*ti.size) (Builtin.zeroCells zv.cells (rows.length-k)).toList).cell? ⟨b,j,none⟩=ds[j]? :=λj=>by simp[World.cell?,d1]
      have hold:∀j,σ1.w.cell? ⟨b,j,none⟩=ar[j]? :=λj=>by simp[World.cell?,har]
      refine .inl ⟨.tuple #[],_,_,.inl ?_,⟨evo,?_,rfl,λm hm=>.inl (hm.elim id λe=>e▸a2)⟩,by simp[Rep]⟩
      ·rw[Gt]at hsto;obtain⟨q,hq⟩:∃q,rows.length-k=q+1:=⟨rows.length-k-1,by omega⟩
       rw[hq]at hsto hvv2⊢;rw[hvv2]at hev;simp[execOp,p1,resolve,p2,invoke,builtin,ha,hat,hev,hvv2,Builtin.clear_,run_underlying p5,hzrun,hsto,Cf.setArr]
      ·refine hI1.h.setArr evo (by grind[Dt]) ⟨.inr rfl,a3,λe r hr=>?_,.inr ⟨b,o,cap,by simp[Cf.setArr,a5],a6,by omega,?_,λ_=>⟨hM,ds,T,d1,by rw[d2];exact hfit⟩,by simp⟩⟩
        (λ_ b' o' cap' g1 g2=>.inl (.inr ⟨rfl,⟨_,_,_,hn⟩,o',cap',g1,g2⟩)) (λc hc=>by rw[Em];exact hI1.h.lt c hc) (by rw[Em];exact fW _)
       ·grind
       ·have e1:rows.flatten=(rows.take k).flatten++(rows.drop k).flatten:=by rw[<-List.flatten_append,y9]
        rw[e1]at v1;obtain⟨xs,ys,rfl,w1,w2⟩:=HP v1;have hxl:xs.length=k*ti.size:=by rw[Bs w1,N6 λr hr=>v4 r (List.mem_of_mem_take hr),tW];congr 1;omega
        refine Dl (vs:=xs++(Builtin.zeroCells zv.cells (rows.length-k)).toList) ?_ ?_ ?_ hr2
        ·rw[List.flatten_append];exact Ds (RepL.mono evo _ _ w1) (RepL.mono evo _ _ hc1)
        ·grind
        ·intro j v hj;show(GC σ1.w b (o+k*ti.size) (Builtin.zeroCells zv.cells (rows.length-k)).toList).cell? ⟨b,o+j,none⟩=some v;have hjl:=(jW.1 hj).1;rw[jT,hzz,hxl]at hjl;rw[hcell,d3];rcases Ke j (k*ti.size)with hjk|hjk
         ·rw[dQ (by omega),<-hold];rw[xV (by omega)]at hj;exact hLies j v (by rw[xV (by omega)];exact hj)
         ·rw[dW ⟨by omega,by rw[hzz];omega,by omega⟩];rw[List.getElem?_append_right (by omega),hxl]at hj;rw[show o+j-(o+k*ti.size)=j-k*ti.size by omega];exact hj
    ·have hkk:k=rows.length:=by omega
     refine .inl ⟨.tuple #[],σ1.w,σ1,.inl ?_,⟨Evo.refl _,?_,rfl,λm hm=>.inl hm⟩,by simp[Rep]⟩
     ·obtain⟨B,C,hB⟩:∃B C,vv=.slice B 0 C:=⟨_,_,by rw[hvv,show rows.length-k=0 by omega]⟩
      rw[hB]at hev;cases B<;>simp[execOp,p1,resolve,p2,invoke,builtin,ha,hat,hev,hB,Builtin.clear_,run_underlying p5]
     ·rw[hkk];simp only[KJ,Nat.sub_self,List.replicate_zero,qO];refine hI1.h.congr λq=>?_
      simp only[hl];split
      ·rename_i e;subst e;exact hn.symm
      ·rfl
   refine Js hΓ.F ho2 hno2 hw2 hst λv σ2 hn2 hv2=>?_
   have hI3:Inv σ2 ((t,.un)::e1) ((.a n,.sl ti.size true (rows.take k++List.replicate (rows.length-k) zs) d)::h1) ((a1.put ops'[i].dst vv).put ops'[i+1].dst v) V.nt V.hb:=by rw[m3];exact⟨hn2.inv,hI2.t.mono hn2.evo,hI2.sz,hI2.df.mono hn2.evo⟩
   exact⟨σ2,⟨(t,.un)::e1,_,c+1⟩,_,rfl,V.ofE (ev1.trans hn2.evo),⟨hI3,λm hm=>by
    show m.2<=c+1;rcases hn2.al m hm with hm|rfl
    ·rcases hal1 m hm with h|⟨h,_⟩<;>omega
    ·exact fW _,V.g hA.2.2 (ev1.trans hn2.evo) λq hq=>.inr ((Ee (d:=some t) (DA g2) hq).trans (hfar1 q hq))⟩,rfl,hQ⟩
  ·cases e0
 |seq x y=>simp only[cCode]at hc;split at hc<;>simp at hc
 |cond c x y=>simp only[cCode]at hc;split at hc<;>simp at hc
 |rangeFunc f ps x y=>simp only[cCode]at hc;split at hc<;>simp at hc
 |_=>simp[cCode]at hc
theorem Wl{V:Ctx}(hΓ:V.OK)(i:Nat){rid:Nat}{ops:List AOp}{Q:AE->St->Prop}{e e1:Az}{h h1:Hp}{c:Nat}{vc:Prop}{t sz sz2 l:Nat}{k:Int}{zs:List AV}{x lo:Opd}{n:Nm}{rows:List (List AV)}{d:List AV}(hlen:ops.length=i+2)(hs:ops[i]? =some ⟨some t,none,.slc sz x (some lo) none none⟩)(hk:ops[i+1]? =some ⟨none,none,.clr sz2 zs (.t t)⟩)(hex:Bg V.S (c+1) (100*rid) (ops.take i) e h=some (vc,e1,h1))(hvc:vc)(hx:AJ true (AI e1 x)=.own n l)(hn:hl h1 (.a n)=some (.sl sz true rows d))(hl':l=rows.length)(hlo:AJ true (AI e1 lo)=.i k)(hkr:0<=k/\k<=rows.length)(hz:sz2=sz)(hsn:HF n=false)(hQ:Q .n ⟨(t,.un)::e1,(.a n,.sl sz true (rows.take k.toNat++List.replicate (rows.length-k.toNat) zs) d)::h1,c+1⟩):Ax V (.reg rid ops) Q ⟨e,h,c⟩:=by obtain⟨k,rfl⟩:=Int.eq_ofNat_of_zero_le hkr.1;exact rZ hΓ i hlen hs hk hex hvc hx hn hl' hlo (by omega) hz hsn hQ
end
section
open Go
attribute [local irreducible] Ax BO BB Bj BC Bk AY BD BK Cq
def EC(N:Nat)(s6209:List (Int×Int×Int×(List (Int×Int))×Int×Int)):Nat->Int->(List (Int×Int×Int×(List (Int×Int))×Int×Int))->Option ((List (Int×Int×Int×(List (Int×Int))×Int×Int)))|0,_,_=>none|n+1,x6234,l6235=>bif decide (x6234<(s6209.length:Int))then((A7 s6209 x6234).bind λ(x6236,x6237,x6238,x6239,x6240,x6241)=>(BJ N x6239).bind λr6243=>gd ((l6235.length+1)*64<=140737488355328)<|gd (Af (x6234+1))<|EC N s6209 n (x6234+1) (l6235++[(x6236,x6237,x6238,r6243,x6240,x6241)]))else(some l6235)
end
section
open Go
attribute [local irreducible] Ax BO BB Bj BC Bk AY BD BK Cq
theorem DX{P:Program}:∀f args vs vc r,Rc f args vs=some (vc,r)->vc->Dh P f/\IA P f args vs r:=λ_ _ _ _ _ h=>by cases h
theorem DY{P:Program}:∀f sz rows ax vc rows',PB f sz rows ax=some (vc,rows')->vc->Dh P f/\K4 P f sz rows ax rows'/\∀r∈rows',r.length=sz/\AP r=true:=λ_ _ _ _ _ _ h=>by cases h
theorem DZ{P:Program}:∀f args vs vc v,PA f args vs=some (vc,v)->vc->Dh P f/\QD P f args vs v:=λ_ _ _ _ _ h=>by cases h
abbrev Mk:=Int×Int×Int×Int×Bool
theorem Yv{l:List Mk}:∀r∈l.map BZ,AP r=true:=λr hr=>by obtain⟨x,_,rfl⟩:=List.mem_map.1 hr;rfl
theorem sP(l:List Mk)(hl:l.length*40<=140737488355328):GCall Tryz.prog 99 [AS l] (λn=>[(.a n,EH l)]) (λn=>.own n l.length):=by
 have hS:=Aj (P:=Tryz.prog);have h:=Uc hS x99 (args:=[AS l]) (pre:=[]) (d:=[.i 0,.i 0,.i 0,.i 0,.b false]) (sz:=5) (rows:=l.map BZ) (oL rfl) Yv λhb=>?_
 ·simp only[qI,Wj]at h;exact h
 have F:=f0;dsimp only[x99,Ah,AS];cases l with
 |nil=>
  refine Yb 0 (by show(0:Nat)<8;omega) (ev F) (λk=>?_) (λb k=>?_)
  ·refine go hS F ?_;refine ct F ?_;refine CK (nN (Ctx.fn_ok hS) (ev F) yT ?_);refine DW ?_;refine DT 1 2 5 [.i 0,.i 0,.i 0,.i 0,.b false] (by show(2:Nat)<8;omega) (by omega) (ev F) ?_;refine Dj (Ec ?_);exact HU (ev F) (ev F) ⟨_,[],rfl,ev F,trivial,rfl,trivial,trivial,rfl⟩
  ·refine go hS F ?_;refine cf F ?_;refine go hS F ?_;exact HU (ev F) (ev F) ⟨_,[],rfl,ev F,trivial,rfl,trivial,trivial,rfl⟩
 |cons x l=>rw[pV]at hl;refine go hS F ?_;refine cf F ?_;refine go hS F ?_;exact HU (ev F) (ev F) ⟨(300,3),[],by simp[one,Wj],ev F,trivial,rfl,trivial,trivial,rfl⟩
theorem GCall.argD{P:Program}{f:Nat}{args args':List AV}{ws:Nm->Hp}{g:Nm->AV}(hw:Ib args args')(h:GCall P f args' ws g):GCall P f args ws g:=λU hp vs nm a b c d e=>h U hp vs nm a b c ((GY (U:=U) args args' vs hw).1 d) ((GY args args' vs hw).2 e)
def Nj:Nat->List AV->Option (Prop×(Nm->Hp)×(Nm->AV)):=λf args=>if f=99 then(match args with|[.sl y _ s _]=>some (((y=5\/s=[])/\s=(s.map E8).map BZ)/\(s.map E8).length*40<=140737488355328,λn=>[(.a n,EH (s.map E8))],λn=>.own n (s.map E8).length)|_=>none)else none
theorem Wt:∀f args vc ws g,Nj f args=some (vc,ws,g)->vc->Dh Tryz.prog f/\GCall Tryz.prog f args ws g:=by
 intro f args vc ws g h hv;unfold Nj at h;split at h
 ·rename_i hf;subst hf;split at h
  ·simp only[yE,KW]at h;obtain⟨rfl,rfl,rfl⟩:=h;obtain⟨⟨h1,h2⟩,h3⟩:=hv;refine⟨x99.ok,GCall.argD (show Ib _ [AS _]from⟨?_,trivial⟩) (sP _ h3)⟩;exact⟨by rw[<-h2];exact LH _,h1,λh=>by cases h⟩
  ·cases h
 ·cases h
def Ge(N:Nat)(us:List Un):Option (List Un):=EC N us N 0 []
attribute [local go_sem] Nj
theorem jP(N:Nat)(us r:List Un)(ms:List Mk)(hr:Ge N us=some r)(hm:ms.length*40<=140737488355328):GCall Tryz.prog 56 [.agg [Ap us,AS ms]] (λn=>[(.a n,EH ms)]) (λn=>.agg [Ap r,.own n ms.length]):=by
 have hS:=BG (Ab (UZ N)<|Aj) DX Wt DY DZ;have h0:=Uc hS x56 (args:=[.agg [Ap us,AS ms]]) (pre:=[Ap r]) (d:=[.i 0,.i 0,.i 0,.i 0,.b false]) (sz:=5) (rows:=ms.map BZ) (oL rfl) Yv λhb=>?_
 ·simp only[qI,Wj,sF,pA]at h0;exact h0
 have F:=f0;have h:=hr;unfold Ge at h;dsimp only[x56,Ah,Ap,AS];refine go hS F ?_;refine Fc 1000001 (104,2) 0 6 [.i 0,.i 0,.i 0,.sl 0 true [] [],.i 0,.i 0] (by omega) (ev F) ?_;refine go hS F ?_;refine Bz r (λz:(List (Int×Int×Int×(List (Int×Int))×Int×Int))×Nat=>⟨[(2,.box (1,1) 0),(3,.box (104,2) 0)],[(.c (104,2) 0,.own (1000001,4) z.1.length),(.c (104,2) 1,.own (102,2) ms.length),(.a (102,2),EH ms),(.a (1000001,4),B7 z.1),(.c (1,1) 0,.sl 0 true [] []),(.c (1,1) 1,.sl 0 true [] [])],z.2⟩) (λz=>(z.1:(List (Int×Int×Int×(List (Int×Int))×Int×Int)))) (.x 0) ?_ ?_
 ·refine Bp (λn (y:Int×(List (Int×Int×Int×(List (Int×Int))×Int×Int))×Nat)=>EC N us n y.1 y.2.1) (λy=>⟨[(2,.box (1,1) 0),(3,.box (104,2) 0),(12,Ap us),(13,.i (us.length:Int)),(14,.i y.1)],[(.c (104,2) 0,.own (1000001,4) y.2.1.length),(.c (104,2) 1,.own (102,2) ms.length),(.a (102,2),EH ms),(.a (1000001,4),B7 y.2.1),(.c (1,1) 0,.sl 0 true [] []),(.c (1,1) 1,.sl 0 true [] [])],y.2.2⟩) (0,[],4) h (Ch F) ?_;rintro n ⟨x26,l27,c25⟩ hB2;simp only[EC]at hB2;refine An hS F hB2 (λ_ hB2=>?_) (λ_ hB2=>?_)
  ·obtain⟨⟨x28,x29,x30,x31,x32,x33⟩,hn33,hB2⟩:=un hB2;obtain⟨hb33,F⟩:=Cb Au hn33 F;obtain⟨r35,hr35,hv3,hv4,hB2⟩:=un hB2;exact Cd hS (fc hr35 F) (n,x26+1,l27++[(x28,x29,x30,r35,x32,x33)],c25+1+1+1+1+1) hB2
  ·exact B4 hS F (l27,c25+1) hB2
 ·rintro⟨l41,c40⟩ rfl;refine go hS F ?_;exact HU (ev F) (ev F) ⟨(102,2),[.own (1000001,4) l41.length],by simp[one,Wj],ev F,by simp only[go_sem,seval],rfl,by simp[XR,B5,Fu],by simp only[go_sem,seval],by simp only[go_sem,seval]⟩
end
section
theorem lpk{N:Nat}{c n:Int}(hc:Af c)(hn:0<n):Gz N c n=some (pk c n):=by
 unfold Gz pk;by_cases h:c<0
 ·rw[aB h,cT,dW h,Ae (by omega),Ae (by omega),Ae (by omega)]
 ·rw[bJ h,cF,dQ h,Ae (by omega)]
theorem JE{N:Nat}{c n:Int}(hc:Af c)(hn:0<n):AN N c n=some (pk c n):=by
 unfold AN pk;by_cases h:c<0
 ·rw[aB h,cT,dW h,Ae (by omega),Ae (by omega),Ae (by omega)]
 ·rw[bJ h,cF,dQ h,Ae (by omega)]
def JF(m:Mk):Bool:=(((decide (0<=m.1)&&decide (m.1<=99))&&(decide (0<=m.2.1)&&decide (m.2.1<=99)))&&(decide (-2<=m.2.2.1)&&decide (m.2.2.1<=7)))&&(decide (1<=m.2.2.2.1)&&decide (m.2.2.2.1<=5))
theorem S3{m:Mk}:JF m=true↔(0<=m.1/\m.1<=99)/\(0<=m.2.1/\m.2.1<=99)/\(-2<=m.2.2.1/\m.2.2.1<=7)/\(1<=m.2.2.2.1/\m.2.2.2.1<=5):=by simp_all[JF,and_assoc]
theorem Qt(N:Nat)(a b c d:Int)(o:Bool):Ht N a b c d o=some (JF (a,b,c,d,o)):=by unfold Ht Cv BM JF;simp only[bS];rw[BR (by grind),BR (by grind),BR (by grind)];rfl
theorem RT(N:Nat)(a b c d:Int)(o:Bool):FF N a b c d o=some (JF (a,b,c,d,o)):=by unfold FF AH JF;simp only[bS];rw[BR (by grind),BR (by grind),BR (by grind)];rfl
structure MV(f:List Un)(ms:List Mk):Prop where
 len:ms.length<=20
 ok:∀m∈ms,JF m=true
 on:∀m∈ms,∃u∈f,u.1=m.2.1/\m.2.2.1<(u.2.2.2.1.length:Int)
 srt:ms.Pairwise λa b=>a.1<b.1
noncomputable instance(f:List Un)(ms:List Mk):Decidable (MV f ms):=Classical.propDecidable _
def SV(f:List Un)(ms:List Mk):Prop:=FV f/\MV f ms
noncomputable instance(f:List Un)(ms:List Mk):Decidable (SV f ms):=Classical.propDecidable _
def Xg:Mk:=(0,0,0,0,false)
def Bi(ms:List Mk)(k:Nat):Mk:=ms.getD k (0,0,0,0,false)
theorem E7{ms:List Mk}{k:Nat}(h:k<ms.length):A7 ms (k:Int)=some ((Bi ms k).1,(Bi ms k).2.1,(Bi ms k).2.2.1,(Bi ms k).2.2.2.1,(Bi ms k).2.2.2.2):=by rw[Ou (0,0,0,0,false) (by omega) (by omega),tK];rfl
theorem FJ{ms:List Mk}{k:Nat}(h:k<ms.length):Bi ms k=ms[k]:=by grind[Bi]
theorem J5{ms:List Mk}{k:Nat}(h:k<ms.length):Bi ms k∈ms:=by rw[FJ h];exact by grind
theorem Ml{ms:List Mk}{m:Mk}(h:m∈ms):∃k,k<ms.length/\Bi ms k=m:=by obtain⟨k,hk,e⟩:=List.mem_iff_getElem.1 h;exact⟨k,hk,(FJ hk).trans e⟩
theorem I1{ms:List Mk}{R:Mk->Mk->Prop}:ms.Pairwise R↔∀i k,i<k->k<ms.length->R (Bi ms i) (Bi ms k):=by rw[List.pairwise_iff_getElem];grind[FJ]
theorem uK{ms:List Mk}(h:∀k,0<k->k<ms.length->(Bi ms (k-1)).1<(Bi ms k).1):ms.Pairwise λa b=>a.1<b.1:=by rw[I1];intro i k hik hk;induction k<;>grind
def LA(ms:List Mk)(x:Int):Int:=if x<=0 then-1 else(Bi ms (x-1).toNat).1
theorem Q0(ms:List Mk)(k:Nat):LA ms ((k+1:Nat):Int)=(Bi ms k).1:=by unfold LA;rw[dQ (by omega),show((k+1:Nat):Int)-1=(k) by omega,tK]
def Ux(f:List Un)(m:Mk):Bool:=f.any λu=>decide (u.1=m.2.1)&&decide (m.2.2.1<(u.2.2.2.1.length:Int))
theorem Z2{f:List Un}{m:Mk}:Ux f m=true↔∃u∈f,u.1=m.2.1/\m.2.2.1<(u.2.2.2.1.length:Int):=by simp_all[Ux]
theorem Xh{f:List Un}(hf:FV f)(m:Mk):Ux f m=((Df f m.2.1).2&& !decide (((Df f m.2.1).1.2.2.2.1.length:Int)<=m.2.2.1)):=by
 rw[IF,Z2];unfold Df;rw[dW hf];by_cases c:∃u∈f,u.1=m.2.1
 ·obtain⟨u,hu,e⟩:=c;obtain⟨k,hk,rfl⟩:=Lm hu;rw[<-e,OE hf hk];simp only[Ld,w6,cY,Int.not_le];constructor
  ·rintro⟨v,hv,e2,h⟩;obtain⟨j,hj,rfl⟩:=Lm hv;rw[hf.uniq hj hk e2]at h;exact h
  grind
 grind
def G6(f:List Un)(ms:List Mk)(k:Nat):Bool:=(Ux f (Bi ms k)&&JF (Bi ms k))&&decide (LA ms k<(Bi ms k).1)
theorem Pr{f:List Un}{ms:List Mk}:(∀k,k<ms.length->G6 f ms k=true)/\ms.length<=20↔MV f ms:=by
 constructor
 ·rintro⟨h,hl⟩;refine⟨hl,λm hm=>?_,λm hm=>?_,uK λk h0 hk=>?_⟩
  ·obtain⟨k,hk,rfl⟩:=Ml hm;have:=h k hk;simp_all[G6]
  ·obtain⟨k,hk,rfl⟩:=Ml hm;have:=h k hk;simp_all[G6,Z2]
  ·have:=h k hk;unfold G6 at this;simp only[nK,bK]at this;obtain⟨j,rfl⟩:∃j,k=j+1:=⟨k-1,by omega⟩
   rw[Q0]at this;exact this.2
 ·rintro⟨h1,h2,h3,h4⟩;refine⟨λk hk=>?_,h1⟩;unfold G6;simp only[nK,bK];refine⟨⟨Z2.2 (h3 _ (J5 hk)),h2 _ (J5 hk)⟩,?_⟩;cases k with
  |zero=>have:=S3.1 (h2 _ (J5 hk));unfold LA;omega
  |succ k=>rw[Q0];simp_all[I1]
section
variable{N:Nat}(hN:1001<=N)
include hN
theorem S4(f:List Un)(t:Int):Dk N f t=some (((Df f t).1.1,(Df f t).1.2.1,(Df f t).1.2.2.1,(Df f t).1.2.2.2.1,(Df f t).1.2.2.2.2.1,(Df f t).1.2.2.2.2.2),(Df f t).2):=AcH hN f t
theorem Uy{f:List Un}(hf:FV f){ms:List Mk}(hl:ms.length<=1000):CV N f ms=some (decide (MV f ms)):=by
 have F:=GK (L:=λn x=>E6 N ms f n (LA ms x) x) (len:=ms.length) (λk=>bif G6 f ms k then none else some false) (λn k hk e=>?_) (λn k r hk e=>?_) (λn=>?_) N (by omega)
 ·unfold CV;rw[show(-1:Int)=LA ms 0 by unfold LA;rw[dW (Int.le_refl _)]];rcases F with⟨e,h⟩|⟨j,r,hj,h,_,e⟩
  ·rw[e,bS];simp only;congr 1;rw[IF,bK,bK,<-Pr];grind
  ·rw[e,bS];cases c:G6 f ms j with
   |true=>rw[c,cT]at h;cases h
   |false=>rw[c,cF]at h;grind[Pr]
 all_goals try simp only
 ·cases c:G6 f ms k with
  |false=>rw[c,cF]at e;cases e
  |true=>
   rw[E6,Dq hk,cT,E7 hk,bS];simp only;rw[S4 hN,bS,Qt];simp only;rw[BR (by grind),oK,A1 _ ?_,Ae (by unfold Af;omega),Q0,ns]
   simp_all[G6,Xh]
 ·cases c:G6 f ms k with
  |true=>rw[c,cT]at e;cases e
  |false=>
   rw[c,cF]at e;cases e
   rw[E6,Dq hk,cT,E7 hk,bS];simp only;rw[S4 hN,bS,Qt];rw[BR (by grind),oK,AU _ ?_];unfold G6 at c;rw[Xh hf]at c;grind
 ·rw[E6,F2,cF]
theorem fL(f:List Un){ms:List Mk}(hl:ms.length<=1000):Dw N f ms=some (decide (SV f ms)):=by
 unfold Dw;rw[ZU hN,bS];by_cases h:FV f
 ·rw[Uy hN h hl,BR (by grind),oK];congr 1;rw[IF];simp;rfl
 ·rw[bJ h,BR (by grind),bJ λv=>h v.1,Bool.false_and]
omit hN in
theorem RU(N:Nat){f:List Un}(hl:f.length<=1000)(m:Mk):∀n k (b:Bool),k<=f.length->f.length<n+k->Eg N f m.2.1 m.2.2.1 n b (k:Nat)=some (b||Ux (f.drop k) m)
 |0,k,b,h1,h2=>by omega
 |n+1,k,b,h1,h2=>by
  rw[Eg];by_cases e:k<f.length
  ·rw[Dq e,cT,Fs e,bS];simp;rw[Ae (by omega),<-ns,RU N hl m n (k+1) _ (by omega) (by omega)];have e2:f.drop k=A2 f k::f.drop (k+1):=by rw[Fb e];simp_all
   rw[e2,show Ux (A2 f k::f.drop (k+1)) m=((decide ((A2 f k).1=m.2.1)&&decide (m.2.2.1<((A2 f k).2.2.2.1.length)))||Ux (f.drop (k+1)) m)from rfl,Bool.or_assoc]
  ·have e3:k=f.length:=by omega
   subst e3;rw[F2,cF,tM,show Ux [] m=false from rfl,Bool.or_false]
omit hN in
theorem qA{f:List Un}{ms:List Mk}{k:Nat}(hk:k<ms.length):((!JF (Bi ms k))||(decide (0<(k:Int))&&decide ((Bi ms k).1<=(ms.getD ((k:Int)-1).toNat (0,0,0,0,false)).1)))= !(JF (Bi ms k)&&decide (LA ms k<(Bi ms k).1)):=by
 rw[Bool.not_and];cases h:JF (Bi ms k)with
 |false=>rfl
 |true=>
  rw[Jh,Bool.false_or,Bool.false_or,IF];have h:=S3.1 h;simp only[nK,bK,w6,cY];cases k with
  |zero=>unfold LA;omega
  |succ k=>rw[Q0,show((k+1:Nat):Int)-1=(k) by omega,tK];grind[Bi]
theorem Xi(f:List Un){ms:List Mk}(hl:ms.length<=1000):Bn N f ms=some (decide (SV f ms)):=by
 unfold Bn;rw[SZ hN,bS];by_cases c:FV f/\ms.length<=20
 ·obtain⟨hf,h20⟩:=c;have fl:=hf.len;rw[aB hf,A1 _ (by simp;omega)];have F:=GK (L:=C3 N ms f) (len:=ms.length) (λk=>bif G6 f ms k then none else some false) (λn k hk e=>?_) (λn k r hk e=>?_) (λn=>?_) N (by omega)
  ·rcases F with⟨e,h⟩|⟨j,r,hj,h,_,e⟩
   ·rw[e,bS];simp only;rw[aB];refine⟨hf,Pr.1 ⟨λk hk=>?_,h20⟩⟩;have:=h k hk;grind
   ·rw[e,bS];cases c:G6 f ms j with
    |true=>rw[c,cT]at h;cases h
    |false=>
     rw[c,cF]at h;cases h
     simp only;rw[bJ];intro v;have:=(Pr.2 v.2).1 j hj;rw[c]at this;cases this
  ·cases c:G6 f ms k with
   |false=>rw[c,cF]at e;cases e
   |true=>unfold G6 at c;rw[nK,nK]at c;rw[C3,Dq hk,cT,E7 hk,bS];simp only;rw[RT,bS,BR (by omega),BR (by grind),show JF ((Bi ms k).1,(Bi ms k).2.1,(Bi ms k).2.2.1,(Bi ms k).2.2.2.1,(Bi ms k).2.2.2.2)=JF (Bi ms k)from rfl,qA (f:=f) hk,c.1.2,c.2,A1 _ (by rfl),<-nL,RU N (by omega) (Bi ms k) N 0 false (by omega) (by omega),bS,tJ,c.1.1,A1 _ (by rfl),Ae (by unfold Af;omega),ns]
  ·cases c:G6 f ms k with
   |true=>rw[c,cT]at e;cases e
   |false=>
    rw[c,cF]at e;cases e
    unfold G6 at c;rw[C3,Dq hk,cT,E7 hk,bS];simp only;rw[RT,bS,BR (by omega),BR (by grind),show JF ((Bi ms k).1,(Bi ms k).2.1,(Bi ms k).2.2.1,(Bi ms k).2.2.2.1,(Bi ms k).2.2.2.2)=JF (Bi ms k)from rfl,qA (f:=f) hk];by_cases c2:(JF (Bi ms k)&&decide (LA ms k<(Bi ms k).1))=true
    ·rw[c2,A1 _ (by rfl),<-nL,RU N (by omega) (Bi ms k) N 0 false (by omega) (by omega),bS,tJ,AU];rw[nK]at c2;rw[c2.1,c2.2,Kh,Kh]at c;rw[c];rfl
    grind
  ·rw[C3,F2,cF]
 ·rw[AU,bJ λv=>c ⟨v.1,v.2.len⟩];grind
end
end
open Go
attribute [local irreducible] Ax BO BB Bj BC Bk AY BD BK Cq
@[go_sem] theorem AgF(a b:Int):(some a=some b)=(a=b):=by simp
def JT:List (List AV):=[[.i 1,.agg [.clo (.func 130) [] [],.clo (.func 131) [] [],.clo (.func 133) [] [],.clo (.func 135) [] [],.clo (.func 136) [] []]],[.i 2,.agg [.clo (.func 139) [] [],.clo (.func 141) [] [],.clo (.func 142) [] [],.clo (.func 145) [] [],.clo (.func 149) [] []]],[.i 3,.agg [.clo (.func 150) [] [],.clo (.func 151) [] [],.clo (.func 152) [] [],.v .nilFunc,.clo (.func 154) [] []]],[.i 4,.agg [.clo (.func 155) [] [],.clo (.func 156) [] [],.clo (.func 157) [] [],.clo (.func 158) [] [],.clo (.func 159) [] []]]]
def JU:List (List AV):=[[.i 5,.agg [.clo (.func 163) [] [],.clo (.func 164) [] [],.clo (.func 165) [] [],.v .nilFunc,.clo (.func 169) [] []]],[.i 6,.agg [.clo (.func 160) [] [],.clo (.func 161) [] [],.clo (.func 170) [] [],.clo (.func 172) [] [],.clo (.func 162) [] []]],[.i 7,.agg [.clo (.func 160) [] [],.clo (.func 161) [] [],.clo (.func 173) [] [],.clo (.func 174) [] [],.clo (.func 162) [] []]]]
theorem sQ:GCall Tryz.prog 108 [] (λn=>[(.c n 0,ME JT)]) .mp:=by
 have hS:=Aj (P:=Tryz.prog);refine Ub hS x108 (oL rfl) λhb=>?_
 have F:=f0;dsimp only[x108,Ah];refine go hS F ?_;exact HU (ev F) (ev F) ⟨(100,2),rfl,by simp only[go_sem,seval,JT]⟩
theorem sR:GCall Tryz.prog 109 [] (λn=>[(.c n 0,ME JU)]) .mp:=by
 have hS:=Aj (P:=Tryz.prog);refine Ub hS x109 (oL rfl) λhb=>?_
 have F:=f0;dsimp only[x109,Ah];refine go hS F ?_;exact HU (ev F) (ev F) ⟨(400,5),rfl,by simp only[go_sem,seval,JU]⟩
def kF(N:Nat):Nat->List AV->Option (Prop×(Nm->Hp)×(Nm->AV)):=λf args=>if f=108 then(match args with|[]=>some (True,λn=>[(.c n 0,ME JT)],.mp)|_=>none)else if f=109 then(match args with|[]=>some (True,λn=>[(.c n 0,ME JU)],.mp)|_=>none)
 else if f=56 then(match args with
  |[.agg [.sl y _ s _,.sl y2 _ s2 _]]=>match Ge N (s.map B1)with|some r=>some ((((y=6\/s=[])/\Hk s ((s.map B1).map Au))/\((y2=5\/s2=[])/\s2=(s2.map E8).map BZ))/\(s2.map E8).length*40<=140737488355328,λn=>[(.a n,EH (s2.map E8))],λn=>.agg [Ap r,.own n (s2.map E8).length])|none=>none
  |_=>none)
 else Nj f args
theorem CP(N:Nat):∀f args vc ws g,kF N f args=some (vc,ws,g)->vc->Dh Tryz.prog f/\GCall Tryz.prog f args ws g:=by
 intro f args vc ws g h hv;unfold kF at h;split at h
 ·rename_i hf;subst hf;split at h
  ·simp only[yE,KW]at h;obtain⟨rfl,rfl,rfl⟩:=h;exact⟨x108.ok,sQ⟩
  ·cases h
 ·split at h
  ·rename_i hf;subst hf;split at h
   ·simp only[yE,KW]at h;obtain⟨rfl,rfl,rfl⟩:=h;exact⟨x109.ok,sR⟩
   ·cases h
  ·split at h
   ·rename_i hf;subst hf;split at h
    ·rename_i y fl s d y2 fl2 s2 d2;split at h
     ·rename_i r hr;simp only[yE,KW]at h;obtain⟨rfl,rfl,rfl⟩:=h;obtain⟨⟨⟨h1,h2⟩,h4,h5⟩,h3⟩:=hv;refine⟨x56.ok,GCall.argD (show Ib _ [.agg [Ap _,AS _]]from⟨⟨⟨h2,h1,λh=>by cases h⟩,⟨?_,h4,λh=>by cases h⟩,trivial⟩,trivial⟩) (jP N _ r _ hr h3)⟩;rw[<-h5];exact LH _
     ·cases h
    ·cases h
   ·exact Wt f args vc ws g h hv
def Qe:Value:=.iface 126 (.agg #[])
def qU(N:Nat):Nat->List AV->List AV->Option (Prop×AV):=λf args vs=>if f=148 then(match args,vs with
 |[.box _ 0,.v (.int .i64 _)],[.agg (.sl y _ s _::_),.v (.int .i64 id)]=>match Dk N (s.map B1) id with|some (u,true)=>some ((y=6\/s=[])/\Hk s ((s.map B1).map Au),.agg (Au u))|_=>none
 |_,_=>none)else none
def yU(N:Nat):Nat->List AV->List AV->Option (Prop×Value):=λf args vs=>if f=148 then(match args,vs with
 |[.box _ 0,.v (.int .i64 _)],[.agg (.sl y _ s _::_),.v (.int .i64 id)]=>match Dk N (s.map B1) id with|some (_,false)=>some ((y=6\/s=[])/\Hk s ((s.map B1).map Au),Qe)|_=>none
 |_,_=>none)else none
theorem Yw{hp:Hp}{n:Nm}{c:AV}{cs:List AV}(hc:∃z f r d,c=.sl z f r d)(h:qv hp (.box n 0)=.agg (c::cs)):hl hp (.c n 0)=some c:=by
 obtain⟨z,f,r,d,rfl⟩:=hc;simp only[qv,AV.agg.injEq]at h;cases hb:C0 hp n 0 40 with
 |nil=>rw[hb]at h;cases h
 |cons x xs=>
  rw[hb]at h;simp only[eG,List.cons.injEq]at h;have hx:=I5 40 0 0 x (by rw[hb];rfl);rw[Gt]at hx;rw[hx.1];congr 1;have h1:=h.1;cases x with
  |mp m=>simp only[K2]at h1;split at h1<;>cases h1
  |_=>simp only[K2]at h1;first|exact h1|cases h1
theorem LkE.c{hp hp':Hp}{cnt:Nat}{args:List AV}(hL:LkB hp cnt args){n:Nm}{j:Nat}{x:AV}(hn:cnt<n.2)(h:LkE hp hp'):LkE hp ((.c n j,x)::hp'):=λl y hy=>by
 rw[hl,dQ λe=>?_]
 ·exact h l y hy
 ·subst e;have:=hL.h n j y hy;omega
section
variable(N:Nat){n:Nm}{id:Int}{y:Nat}{fl:Bool}{s:List (List AV)}{d:List AV}
theorem zL{u:Un}{rest:List AV}(hy:y=6\/s=[])(hw:Hk s ((s.map B1).map Au))(hu:Dk N (s.map B1) id=some (u,true)):IA Tryz.prog 148 [.box n 0,.i id] [.agg (.sl y fl s d::rest),.i id] (.agg (Au u)):=by
 have hS:=Ab (Zz N)<|Aj
 refine bY hS x148 rfl (oL rfl) λhb hp cnt hL hv=>?_
 obtain⟨n1,n2⟩:=n;simp only[eG,tV,List.cons.injEq,and_true]at hv;have h0:=Yw ⟨_,_,_,_,rfl⟩ hv.1;have hn:=hL.a (n1,n2) 0 (by simp);have F:=fc (show(y=6\/s=[])=True from eq_true hy) (fc (show Hk s ((s.map B1).map Au)=True from eq_true hw) (fc h0 (fc hu (fc (show(cnt+1=n2)=False by simp at hn⊢;omega) (fc (show(cnt+1+1=n2)=False by simp at hn⊢;omega) (fc (show(cnt+1+1+1=n2)=False by simp at hn⊢;omega) f0))))));dsimp only[x148,Ah];refine go hS F ?_;refine GO hS 1 x77.hf x77.hc x77.hn x77.ok rfl (ev F) (ev F) ?_ rfl (ev F) (oL rfl) λhb=>?_
 ·exact Bl hS F
 dsimp only[x77,Ah];refine go hS F ?_;refine cf F ?_;refine go hS F ?_;exact HU (ev F) (ev F) ⟨by simp only[go_sem,seval],by repeat' first|exact λ_ _ h=>h|refine LkE.c hL (by simp only;omega) ?_⟩
theorem zN{u:Un}{rest:List AV}(hy:y=6\/s=[])(hw:Hk s ((s.map B1).map Au))(hu:Dk N (s.map B1) id=some (u,false)):QD Tryz.prog 148 [.box n 0,.i id] [.agg (.sl y fl s d::rest),.i id] Qe:=by
 have hS:=Ab (Zz N)<|Aj
 refine jH hS x148 (oL rfl) λhb hp cnt hL hv=>?_
 obtain⟨n1,n2⟩:=n;simp only[eG,tV,List.cons.injEq,and_true]at hv;have h0:=Yw ⟨_,_,_,_,rfl⟩ hv.1;have hn:=hL.a (n1,n2) 0 (by simp);have F:=fc (show(y=6\/s=[])=True from eq_true hy) (fc (show Hk s ((s.map B1).map Au)=True from eq_true hw) (fc h0 (fc hu (fc (show(cnt+1=n2)=False by simp at hn⊢;omega) (fc (show(cnt+1+1=n2)=False by simp at hn⊢;omega) (fc (show(cnt+1+1+1=n2)=False by simp at hn⊢;omega) f0))))));dsimp only[x148,Ah];refine go hS F ?_;refine AZ hS 1 x77.hf x77.hc x77.hn x77.ok rfl (ev F) (ev F) ?_ rfl (ev F) (oL rfl) λhb=>?_
 ·exact Bl hS F
 dsimp only[x77,Ah];refine go hS F ?_;refine ct F ?_;refine go hS F ?_;refine Bf (Ctx.fn_ok hS) 2 rfl rfl (ev F) (ev F) (ev F) ?_
 repeat' (first|with_reducible (first|apply A8|apply A9|apply Bh|apply AR|apply Bx)|((with_reducible apply A4);(·simp)))
 exact⟨rfl,by repeat' first|exact λ_ _ h=>h|refine LkE.c hL (by simp only;omega) ?_⟩
end
theorem L3(N:Nat):∀f args vs vc r,qU N f args vs=some (vc,r)->vc->Dh Tryz.prog f/\IA Tryz.prog f args vs r:=by
 intro f args vs vc r h hv;unfold qU at h;split at h
 ·rename_i hf;subst hf;split at h
  ·rename_i n i y fl s d rest id;split at h
   ·rename_i u hu;cases h
    refine⟨x148.ok,λU hp xs gl hI hal hx hvs=>?_⟩;have hii:i=id:=by simp only[eG,tV,qv,List.cons.injEq,and_true,AV.v.injEq,Value.int.injEq,true_and]at hvs;exact hvs.2
    subst hii;exact zL N hv.1 hv.2 hu U hp xs gl hI hal hx hvs
   ·cases h
  ·cases h
 ·cases h
theorem H2(N:Nat):∀f args vs vc v,yU N f args vs=some (vc,v)->vc->Dh Tryz.prog f/\QD Tryz.prog f args vs v:=by
 intro f args vs vc r h hv;unfold yU at h;split at h
 ·rename_i hf;subst hf;split at h
  ·rename_i n i y fl s d rest id;split at h
   ·rename_i u hu;cases h
    refine⟨x148.ok,λU hp xs gl hI hal hx hvs=>?_⟩;have hii:i=id:=by simp only[eG,tV,qv,List.cons.injEq,and_true,AV.v.injEq,Value.int.injEq,true_and]at hvs;exact hvs.2
    subst hii;exact zN N hv.1 hv.2 hu U hp xs gl hI hal hx hvs
   ·cases h
  ·cases h
 ·cases h
def oI:Nat->Nat->List (List AV)->List AV->Option (Prop×List (List AV)):=λf sz rows ax=>if f=168 then(match ax with|[.v (.int .i64 k),.sl 5 false [[.v (.int .i64 a),.v (.int .i64 b),.v (.int .i64 c),.v (.int .i64 g),.v (.bool o)]] _]=>some (sz=5/\rows=(rows.map E8).map BZ/\(0<=k/\k<=rows.length)/\(rows.length+1)*40<=140737488355328,rows.take k.toNat++[[.i a,.i b,.i c,.i g,.b o]]++rows.drop k.toNat)|_=>none)else none
theorem H3:∀f sz rows ax vc rows',oI f sz rows ax=some (vc,rows')->vc->Dh Tryz.prog f/\K4 Tryz.prog f sz rows ax rows'/\∀r∈rows',r.length=sz/\AP r=true:=by
 intro f sz rows ax vc rows' h hv;unfold oI at h;split at h
 ·rename_i hf;subst hf;split at h
  ·rename_i k a b c g o d;cases h
   obtain⟨rfl,hr,hk,hl⟩:=hv;have hrow:∀r∈rows,r.length=5/\AP r=true:=λr h=>by rw[hr]at h;obtain⟨x,_,rfl⟩:=List.mem_map.1 h;exact⟨rfl,rfl⟩
   obtain⟨k,rfl⟩:=Int.eq_ofNat_of_zero_le hk.1;refine⟨⟨_,Tryz.func168,by kernel_rfl,by kernel_rfl⟩,Akm .m (by omega) hl λr h=>(hrow r h).1,λr h=>?_⟩;rcases mU.1 h with h|h
   ·rcases mU.1 h with h|h
    ·exact hrow r (List.mem_of_mem_take h)
    ·rw[vF.1 h];exact⟨rfl,rfl⟩
   ·exact hrow r (List.mem_of_mem_drop h)
  ·cases h
 ·cases h
