import Derived.Test.YtdabfcbelkjmgaaGreatDoorW6
import Derived.Test.YtdabfcbelkjmgaaGreatDoorL7
namespace Go.Proofs.YtdabfcbelkjmgaaGreatDoor.Am
set_option linter.unusedSimpArgs false
set_option linter.unusedVariables false
theorem wG {α:Type} (P:α→Prop) (l:List α) (h:∀x∈l,P x) {j:Nat} (hj:j<l.length):∃x,nth l (j:Int)=some x∧P x:=⟨l[j],vP l hj,h _ (List.getElem_mem hj)⟩
theorem wH {α:Type} {P:α→Prop} {a b c d:α} (ha:P a) (hb:P b) (hc:P c) (hd:P d):∀x∈[a,b,c,d],P x:=fun x hx=>by
 simp only[List.mem_cons,List.not_mem_nil,or_false] at hx
 rcases hx with rfl|rfl|rfl|rfl<;>assumption
theorem wI (N:Nat) (r:List Pt) (hr:r.length≤1000):∀(n i:Nat),i≤r.length→r.length<n+i→SM N r r n i=some (.inl ())
 |0,i,hi,hn=>by omega
 |n+1,i,hi,hn=>by
  rw[SM]
  by_cases he:i=r.length
  ·subst he
   rw[dge,cF]
  have hi':i<r.length:=by omega
  rw[dlt hi',cT,Bu hi',bS]
  simp only
  rw[bS]
  simp only
  rw[cF' _ (by simp),Aa (by unfold I64;omega),←ns,wI N r hr n (i+1) (by omega) (by omega)]
def sh8 (x:Int×Int×Int×List Pt×Int×Int):Prop:=x.2.2.2.1.length≤1000
theorem wJ {N:Nat} (hN:1001≤N) (a1 a2 a3:Int) (a4:List Pt) (a5 a6 b1 b2 b3:Int) (b4:List Pt) (b5 b6 c1 c2 c3:Int) (c4:List Pt) (c5 c6 d1 d2 d3:Int) (d4:List Pt) (d5 d6 x1 x2 x3:Int) (x4:List Pt) (x5 x6:Int):∀(n j:Nat),j≤4→4<n+j→∀(e1 e2 e3 e4 e5 e6 e7 e8 f1 f2 f3 f4 f5 f6 f7 f8:Int),
  SN N a1 a2 a3 a4 a5 a6 b1 b2 b3 b4 b5 b6 c1 c2 c3 c4 c5 c6 d1 d2 d3 d4 d5 d6 x1 x2 x3 x4 x5 x6 n j e1 e2 e3 e4 e5 e6 e7 e8 f1 f2 f3 f4 f5 f6 f7 f8=some (.inl ())
 |0,j,hj,hn=>by omega
 |n+1,j,hj,hn=>by
  intro e1 e2 e3 e4 e5 e6 e7 e8 f1 f2 f3 f4 f5 f6 f7 f8
  rw[SN]
  by_cases he:j=4
  ·subst he
   rw[cF' _ (by rfl)]
  obtain⟨⟨y1,y2,y3,y4,y5,y6⟩,hy,_⟩:=wG (fun _=>True) [(a1,a2,a3,a4,a5,a6),(b1,b2,b3,b4,b5,b6),(c1,c2,c3,c4,c5,c6),(d1,d2,d3,d4.take ((min (d4.length:Int) 9).toNat-0),d5,d6)] (fun _ _=>trivial) (j:=j) (by simp;omega)
  obtain⟨⟨⟨r1,r2,⟨⟨r3,r4⟩,r5,r6⟩,r7,r8⟩,r9⟩,h1,h2⟩:=vD hN x1 x2 x3 x4 x5 x6 y1 y2 y3 y4 y5 y6
  obtain⟨o,g1,g2⟩:=vF hN x1 x2 x3 x4 x5 x6 y1 y2 y3 y4 y5 y6
  rw[cT' _ (by simp;omega),hy,bS]
  simp only
  rw[h1,bS,h2,bS]
  simp only
  rw[g1,g2,Gf (fun _=>Option.isSome_some),Gf (fun _=>Option.isSome_some),cF' _ (by simp),Aa (by unfold I64;omega),←ns]
  exact wJ hN a1 a2 a3 a4 a5 a6 b1 b2 b3 b4 b5 b6 c1 c2 c3 c4 c5 c6 d1 d2 d3 d4 d5 d6 x1 x2 x3 x4 x5 x6 n (j+1) (by omega) (by omega) _ _ _ _ _ _ _ _ _ _ _ _ _ _ _ _
theorem wK {N:Nat} (hN:1001≤N) (hNb:N≤4000) (dx dy p q x1 x2 x3:Int) (x4:List Pt) (x5 x6:Int):∀(n j:Nat),j≤2→2<n+j→SO N dx dy p q x1 x2 x3 x4 x5 x6 n j=some (.inl ())
 |0,j,hj,hn=>by omega
 |n+1,j,hj,hn=>by
  rw[SO]
  by_cases he:j=2
  ·subst he
   rw[cF' _ (by rfl)]
  obtain⟨⟨y1,y2⟩,hy,_⟩:=wG (fun _=>True) [(dx,dy),(p-10,q-10)] (fun _ _=>trivial) (j:=j) (by simp;omega)
  obtain⟨⟨⟨r1,r2,r3,r4,r5,r6⟩,r7⟩,h1,h2,h3⟩:=vG hN x1 x2 x3 x4 x5 x6 y1 y2
  simp only at h3
  rw[cT' _ (by simp;omega),hy,bS]
  simp only
  rw[h1,bS,h2,bS]
  simp only
  rw[vZ (by omega) (by omega),Gf (fun _=>Option.isSome_some),Option.getD_some,cF' _ (by simp),Aa (by unfold I64;omega),←ns]
  exact wK hN hNb dx dy p q x1 x2 x3 x4 x5 x6 n (j+1) (by omega) (by omega)
theorem wL {N:Nat} (hN:1001≤N) (hNb:N≤4000) (s:List UInt8) (k c:Int) (text:List UInt8) (hs:s.length≤1000):∀(n j:Nat),j≤4→4<n+j→SQ N s k c text n j=some (.inl ())
 |0,j,hj,hn=>by omega
 |n+1,j,hj,hn=>by
  rw[SQ]
  by_cases he:j=4
  ·subst he
   rw[cF' _ (by rfl)]
  have t1:(s.take k.toNat).length≤1000:=by rw[List.length_take];omega
  have t2:(s.drop (k+1).toNat).length≤1000:=by rw[List.length_drop];omega
  have t3:(text.take (min (text.length:Int) 60).toNat).length≤60:=by rw[List.length_take];omega
  obtain⟨z,hz,hl⟩:=wG (fun z:List UInt8=>z.length≤1000000000) _ (wH (a:=((s.take k.toNat)++[UInt8.ofNat c.toNat])++(s.drop (k+1).toNat)) (b:=s.take k.toNat) (c:=s++(text.take (min (text.length:Int) 60).toNat)) (d:=text.take (min (text.length:Int) 60).toNat) (by simp only[List.length_append,List.length_cons,List.length_nil];omega) (by omega) (by rw[List.length_append];omega) (by omega)) (j:=j) (by simp;omega)
  have key:∃(a b c:Int) (l:List Pt) (p q e:Int),Bh N z=some ((a,b,c,l,p,q),e)∧SF N z=some ((a,b,c,l,p,q),e)∧l.length≤8:=by
   rw[wB (by omega) hl,wD hN hl]
   cases hd:Iu z with
   |none=>exact⟨0,0,0,[],0,0,80,rfl,rfl,by simp⟩
   |some x=>
    obtain⟨a,b,c,l,p,q⟩:=x
    exact⟨a,b,c,l,p,q,0,rfl,rfl,(QY hd).1.l.l8⟩
  obtain⟨y1,y2,y3,y4,y5,y6,y7,hk1,hk2,h8⟩:=key
  rw[cT' _ (by simp;omega),hz,bS,hk1,bS]
  simp only
  rw[hk2,bS]
  simp only
  rw[vZ (by omega) (by omega),Gf (fun _=>Option.isSome_some),Option.getD_some,cF' _ (by simp),Aa (by unfold I64;omega),←ns]
  exact wL hN hNb s k c text hs n (j+1) (by omega) (by omega)
theorem wM {N:Nat} (hN:1001≤N) (hNb:N≤4000) (a1 a2 a3:Int) (a4:List Pt) (a5 a6 b1 b2 b3:Int) (b4:List Pt) (b5 b6 c1 c2 c3:Int) (c4:List Pt) (c5 c6 d1 d2 d3:Int) (d4:List Pt) (d5 d6 dx dy:Int) (ha:a4.length≤1000) (hb:b4.length≤1000) (hc:c4.length≤1000) (hx:I64 dx) (hy:I64 dy):∀(n j:Nat),j≤4→4<n+j→
  SP N a1 a2 a3 a4 a5 a6 b1 b2 b3 b4 b5 b6 c1 c2 c3 c4 c5 c6 d1 d2 d3 d4 d5 d6 dx dy n j=some (.inl ())
 |0,j,hj,hn=>by omega
 |n+1,j,hj,hn=>by
  rw[SP]
  by_cases he:j=4
  ·subst he
   rw[cF' _ (by rfl)]
  obtain⟨⟨x1,x2,x3,x4,x5,x6⟩,hq,hl⟩:=wG sh8 _ (wH (P:=sh8) (a:=(a1,a2,a3,a4,a5,a6)) (b:=(b1,b2,b3,b4,b5,b6)) (c:=(c1,c2,c3,c4,c5,c6)) (d:=(d1,d2,d3,d4.take ((min (d4.length:Int) 9).toNat-0),d5,d6)) ha hb hc (by unfold sh8;simp only[List.length_take];omega)) (j:=j) (by simp;omega)
  unfold sh8 at hl
  simp only at hl
  rw[cT' _ (by simp;omega),hq,bS]
  simp only
  obtain⟨r,f1,f2,f3⟩:=vE hN x1 x2 x3 x4 x5 x6
  have h5:=wI N r f3 N 0 (by omega) (by omega)
  rw[Int.natCast_zero] at h5
  rw[f1,bS,f2,bS,cF' _ (by simp),h5,bS]
  simp only
  obtain⟨⟨⟨s1,s2,⟨⟨s3,s4⟩,s5,s6⟩,s7,s8⟩,s9⟩,g1,g2⟩:=vC hN x1 x2 x3 x4 x5 x6
  obtain⟨v,v1,v2,_⟩:=uV hN x1 x2 x3 x4 x5 x6
  obtain⟨w,w1,w2⟩:=uZ hN x1 x2 x3 x4 x5 x6
  obtain⟨m,m1,m2⟩:=vA hN x1 x2 x3 x4 x5 x6
  rw[g1,bS,g2,bS]
  simp only
  rw[IX (by omega),bS,uJ hN,bS,v1,v2,w1,w2,m1,m2]
  rw[Gf (fun _=>Option.isSome_some),Gf (fun _=>Option.isSome_some),Gf (fun _=>Option.isSome_some),Gf (fun _=>Option.isSome_some),Gf (fun _=>Option.isSome_some),Gf (fun _=>Option.isSome_some),cF' _ (by simp)]
  have h6:=wJ hN a1 a2 a3 a4 a5 a6 b1 b2 b3 b4 b5 b6 c1 c2 c3 c4 c5 c6 d1 d2 d3 d4 d5 d6 x1 x2 x3 x4 x5 x6 N 0 (by omega) (by omega) s1 s2 s3 s4 s5 s6 s7 s8 s1 s2 s3 s4 s5 s6 s7 s8
  rw[Int.natCast_zero] at h6
  have k1:= @Db dx 21 (by omega)
  have k2:= @Db dy 21 (by omega)
  have h7:=wK hN hNb dx dy (pk dx 21) (pk dy 21) x1 x2 x3 x4 x5 x6 N 0 (by omega) (by omega)
  rw[Int.natCast_zero] at h7
  rw[h6,bS]
  simp only
  rw[Rn hx (by omega),bS,Aa (by unfold I64;omega),Rn hy (by omega),bS,Aa (by unfold I64;omega),h7,bS]
  simp only
  obtain⟨⟨t1,t2⟩,u1,u2⟩:=wE hN x1 x2 x3 hl x5 x6
  obtain⟨⟨⟨z1,z2,z3,z4,z5⟩,z6⟩,y1,y2,_⟩:=uL hN x3
  rw[u1,bS,u2,bS]
  simp only
  rw[y1,bS,y2,bS]
  simp only
  rw[cF' _ (by simp),Aa (by unfold I64;omega),←ns]
  exact wM hN hNb a1 a2 a3 a4 a5 a6 b1 b2 b3 b4 b5 b6 c1 c2 c3 c4 c5 c6 d1 d2 d3 d4 d5 d6 dx dy ha hb hc hx hy n (j+1) (by omega) (by omega)
theorem wO {N:Nat} {a b c:Int} {l:List Pt} {p q:Int} (h:UP a b c l p q) {how n at_:Int} (h1:I64 how) (h2:I64 at_):∃a' b' c' l' p' q',S2 N a b c l p q how n at_=some (a',b',c',l',p',q')∧l'.length≤9:=by
 have l8:=h.l.l8
 have l3:=h.l.l3
 have hd:I64 (how.tdiv 6):=by
  unfold I64 at h1⊢
  rcases Int.le_total 0 how with h|h
  ·rw[Int.tdiv_eq_ediv_of_nonneg h];omega
  ·have e:how.tdiv 6= -((-how).tdiv 6):=by rw[Int.neg_tdiv,Int.neg_neg]
   rw[e,Int.tdiv_eq_ediv_of_nonneg (by omega)];omega
 obtain⟨r,e,hr⟩:=uA (N:=N) (l:=l) (by omega) (by omega) (n:=n) h2 hd
 unfold S2
 rw[Aa (by omega),EJ h1 (by omega),bS]
 generalize pk how 6=k
 cases decide (k=0) with
 |true=>exact⟨_,_,_,_,_,_,rfl,by omega⟩
 |false=>
 rw[cF]
 cases decide (k=1) with
 |true=>exact⟨_,_,_,_,_,_,rfl,by omega⟩
 |false=>
 rw[cF]
 cases decide (k=2) with
 |true=>exact⟨_,_,_,_,_,_,rfl,by omega⟩
 |false=>
 rw[cF]
 cases decide (k=3) with
 |true=>exact⟨_,_,_,_,_,_,rfl,by omega⟩
 |false=>
 rw[cF]
 cases decide (k=4) with
 |true=>exact⟨_,_,_,_,_,_,rfl,by omega⟩
 |false=>
 rw[cF,Aa hd,e,bS]
 exact⟨_,_,_,_,_,_,rfl,hr⟩
theorem wN (x y:List Pt) (how p0 p1 p2 p3 q0 q1 q2 q3 e0 e1 e2 r1 r2 r3:Int) (r4:List Pt) (r5 r6 dx dy:Int) (text:List UInt8) (at' c:Int) (hx:In2 x) (hy:In2 y) (h0:I64 how) (g0:I64 p0) (g1:I64 p1) (g2:I64 p2) (g3:I64 p3) (f0:I64 q0) (f1:I64 q1) (f2:I64 q2) (f3:I64 q3) (b0:I64 e0) (b1:I64 e1) (b2:I64 e2) (_:I64 r1) (_:I64 r2) (_:I64 r3) (_:In2 r4) (_:I64 r5) (_:I64 r6) (hdx:I64 dx) (hdy:I64 dy) (_:text.length≤Go.maxLen) (k0:I64 at') (_:0≤c∧c≤255):Uv 2000 x y how p0 p1 p2 p3 q0 q1 q2 q3 e0 e1 e2 r1 r2 r3 r4 r5 r6 dx dy text at' c=some true:=by
 unfold Uv
 obtain⟨a,b,cc,l,p,q,a',b',c',l',p',q',e,u,u'⟩:=Ro (N:=2000) (by omega) (by omega) hx hy h0 g0 g1 g2 g3 f0 f1 f2 f3
 have hsane:Uq 2000=some true:=by decide+kernel
 have l8:=u.l.l8
 have l8':=u'.l.l8
 obtain⟨a2,b2',c2,l2,p2',q2',eb,hl2⟩:=wO (N:=2000) u b0 (n:=e1) b2
 obtain⟨n0,n1⟩:=wC u
 rw[hsane,bS,cF' _ (by rfl),e,bS]
 simp only
 rw[Aa (by omega),eb,bS]
 simp only
 have h1:=wM (N:=2000) (by omega) (by omega) a b cc l p q a' b' c' l' p' q' a2 b2' c2 l2 p2' q2' r1 r2 r3 r4 r5 r6 dx dy (by omega) (by omega) (by omega) hdx hdy 2000 0 (by omega) (by omega)
 rw[Int.natCast_zero] at h1
 rw[h1,bS]
 simp only
 rw[vX (by omega) u,bS]
 simp only
 have kb:= @Db at' (E6 a b cc l p q).length (by omega)
 rw[Rn k0 (by omega),bS]
 generalize pk at' (E6 a b cc l p q).length=k at*
 generalize E6 a b cc l p q=s at*
 have tl:(s.take k.toNat).length≤1000:=by rw[List.length_take];omega
 have dl:(s.drop (k+1).toNat).length≤1000:=by rw[List.length_drop];omega
 have xl:(text.take (min (text.length:Int) 60).toNat).length≤60:=by rw[List.length_take];omega
 have h8:=wL (N:=2000) (by omega) (by omega) s k c text n1 2000 0 (by omega) (by omega)
 rw[Int.natCast_zero] at h8
 rw[Aa (by omega),Aa (by simp only[List.length_append,List.length_cons,List.length_nil];omega),Aa (by unfold I64;omega),Aa (by omega),Aa (by simp only[List.length_append,List.length_cons,List.length_nil];omega),Aa (by omega),Aa (by omega),Aa (by rw[List.length_append];omega),Aa (by omega),h8,bS]
end Go.Proofs.YtdabfcbelkjmgaaGreatDoor.Am
