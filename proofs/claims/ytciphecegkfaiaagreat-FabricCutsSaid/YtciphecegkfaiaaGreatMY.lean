import Derived.Test.YtciphecegkfaiaaGreatMQ
import Derived.Test.YtciphecegkfaiaaGreatDR
import Derived.Test.YtciphecegkfaiaaGreatE6
namespace Go.Proofs.YtciphecegkfaiaaGreat.Am
set_option linter.unusedSimpArgs false
set_option linter.unusedVariables false
def rs (f:Nat→Int) (n:Nat):Int:=((List.range n).map f).sum
theorem Nh (f:Nat→Int):rs f 0=0:=rfl
theorem Jd (f:Nat→Int) (n:Nat):rs f (n+1)=rs f n+f n:=by
 unfold rs;rw[List.range_succ,List.map_append,List.sum_append];simp
theorem O5 (f:Nat→Int) (m:Nat):∀k,rs f (m+k)=rs f m+rs (fun t=>f (m+t)) k
 |0=>by rw[Nat.add_zero,Nh,Int.add_zero]
 |k+1=>by rw[←Nat.add_assoc,Jd,Jd,O5 f m k,Int.add_assoc]
theorem LW {f g:Nat→Int} {n:Nat} (h:∀t,t<n→f t=g t):rs f n=rs g n:=by
 unfold rs
 congr 1
 exact List.map_congr_left fun t ht=>h t (by simpa using ht)
theorem sK {f:Nat→Int} {n:Nat} (per:∀t,f (t+n)=f t) (i:Nat):rs (fun t=>f (i+t)) n=rs f n:=by
 have h1:=O5 f i n
 have h2:=O5 f n i
 have h3:rs (fun t=>f (n+t)) i=rs f i:=LW fun t _=>by rw[Nat.add_comm];exact per t
 rw[Nat.add_comm] at h2
 omega
theorem Ws (h:Nat→Int):∀n,rs (fun t=>h (t+1)-h t) n=h n-h 0
 |0=>by rw[Nh];omega
 |n+1=>by rw[Jd,Ws h n];omega
theorem TB (f g:Nat→Int):∀n,rs (fun t=>f t+g t) n=rs f n+rs g n
 |0=>rfl
 |n+1=>by rw[Jd,Jd,Jd,TB f g n];omega
def cs (F:Pt×Pt→Int) (l:List Pt):Int:=((Bm l).map F).sum
theorem Zh (F:Pt×Pt→Int) (l:List Pt):cs F l=rs (fun t=>F (qa l t,qa l (t+1))) l.length:=by
 unfold cs rs Bm
 rw[List.map_map]
 congr 1
 refine List.map_congr_left fun t ht=> ?_
 rw[List.mem_range] at ht
 show F (pa l t,pa l ((t+1)%l.length))=F (qa l t,qa l (t+1))
 rw[HX ht];rfl
theorem US {F G:Pt×Pt→Int} {H:Pt→Int} (l:List Pt) (h:∀e,G e=F e+(H e.2-H e.1)):cs G l=cs F l:=by
 rw[Zh,Zh]
 have e:rs (fun t=>G (qa l t,qa l (t+1))) l.length=rs (fun t=>F (qa l t,qa l (t+1))+(H (qa l (t+1))-H (qa l t))) l.length:=LW fun t _=>h _
 rw[e,TB (fun t=>F (qa l t,qa l (t+1))) (fun t=>H (qa l (t+1))-H (qa l t)),Ws (fun t=>H (qa l t))]
 have:qa l l.length=qa l 0:=by have:=Hg l 0;rwa [Nat.zero_add] at this
 rw[this];omega
def crs (a b:Pt):Int:=a.1*b.2-a.2*b.1
theorem bN (l:List Pt):Ht l=cs (fun e=>crs e.1 e.2) l:=US (H:=fun p=>crs p (pa l 0)) l fun e=>by
 unfold arE trn crs;grind
theorem rU (l:List Pt):NP l=cs (fun e=>crs e.1 e.2*(e.1.1+e.2.1)) l:=US (H:=fun p=>crs p (pa l 0)*(p.1+(pa l 0).1)) l fun e=>by
 unfold mxE trn crs;grind
theorem rV (l:List Pt):NQ l=cs (fun e=>crs e.1 e.2*(e.1.2+e.2.2)) l:=US (H:=fun p=>crs p (pa l 0)*(p.2+(pa l 0).2)) l fun e=>by
 unfold myE trn crs;grind
theorem HG (l:List Pt):(AS l).length=l.length:=by unfold AS;simp
theorem O8 {l:List Pt} {i:Nat} (h:i<l.length):(AS l).drop i=eLn l i::(AS l).drop (i+1):=by
 rw[List.drop_eq_getElem_cons (by rw[HG];exact h)]
 congr 1
 unfold AS
 simp
theorem UT {p q:Pt} (hp:On p) (hq:On q):(-40≤(Hi p q).1∧(Hi p q).1≤40)∧(-40≤(Hi p q).2.1∧(Hi p q).2.1≤40)∧(-1600≤(q.2-p.2)*p.1∧(q.2-p.2)*p.1≤1600)∧(-1600≤(q.1-p.1)*p.2∧(q.1-p.1)*p.2≤1600):=by
 unfold On at hp hq
 have m:∀u v:Int,-40≤u→u≤40→0≤v→v≤40→-1600≤u*v∧u*v≤1600:=fun u v a b c d=>by
  have k1:=Int.mul_nonneg (show 0≤u+40 by omega) c
  have k2:=Int.mul_nonneg (show 0≤40-u by omega) c
  rw[Int.add_mul] at k1
  rw[Int.sub_mul] at k2
  omega
 have m1:=m (q.2-p.2) p.1 (by omega) (by omega) (by omega) (by omega)
 have m2:=m (q.1-p.1) p.2 (by omega) (by omega) (by omega) (by omega)
 unfold Hi
 simp only
 omega
theorem Zi (N:Nat) {l:List Pt} (h:VP l):∀(n i:Nat) (out:List Tr3),i≤l.length→l.length<n+i→out.length≤100+i→C0 N l n i out=some (out++(AS l).drop i)
 |0,i,out,h1,h2,_=>by omega
 |n+1,i,out,h1,h2,ho=>by
  have l8:=h.l8
  rw[C0]
  by_cases he:i=l.length
  ·subst he
   rw[dge,cF,List.drop_of_length_le (by rw[HG];omega),List.append_nil]
  have hi:i<l.length:=by omega
  have hm:(i+1)%l.length<l.length:=Nat.mod_lt _ (by omega)
  have op:=h.on _ (AA hi)
  have oq:=h.on _ (AA hm)
  have k:=UT op oq
  have oq':=oq
  have op':=op
  unfold On at op' oq'
  rw[dlt hi,cT,C5 hi,bS]
  simp only
  rw[K9 N (by omega) hi,show pa l ((i+1)%l.length)=((pa l ((i+1)%l.length)).1,(pa l ((i+1)%l.length)).2) from rfl,bS]
  simp only
  rw[Ab (by unfold I64;omega),Ab (by unfold I64;omega),Ab (by unfold I64;omega),Ab (by unfold I64;omega),Ab (by unfold I64;omega),Ab (by unfold I64;omega),Ab (by unfold I64;omega),Ab (by omega),Ab (by unfold I64;omega),←ns]
  rw[Zi N h n (i+1) _ (by omega) (by omega) (by simp;omega),O8 hi,List.append_assoc]
  rfl
theorem Zj (N:Nat) {l:List Pt} (h:VP l):∀(n i:Nat) (out:List Tr3),i≤l.length→l.length<n+i→out.length≤100+i→C1 N l n i out=some (out++(AS l).drop i)
 |0,i,out,h1,h2,_=>by omega
 |n+1,i,out,h1,h2,ho=>by
  have l8:=h.l8
  rw[C1]
  by_cases he:i=l.length
  ·subst he
   rw[dge,cF,List.drop_of_length_le (by rw[HG];omega),List.append_nil]
  have hi:i<l.length:=by omega
  have hm:(i+1)%l.length<l.length:=Nat.mod_lt _ (by omega)
  have op:=h.on _ (AA hi)
  have oq:=h.on _ (AA hm)
  have k:=UT op oq
  have oq':=oq
  have op':=op
  unfold On at op' oq'
  rw[dlt hi,cT,C5 hi,bS]
  simp only
  rw[K9 N (by omega) hi,show pa l ((i+1)%l.length)=((pa l ((i+1)%l.length)).1,(pa l ((i+1)%l.length)).2) from rfl,bS]
  simp only
  rw[Ab (by unfold I64;omega),Ab (by unfold I64;omega),Ab (by unfold I64;omega),Ab (by unfold I64;omega),Ab (by unfold I64;omega),Ab (by unfold I64;omega),Ab (by unfold I64;omega),Ab (by omega),Ab (by unfold I64;omega),←ns]
  rw[Zj N h n (i+1) _ (by omega) (by omega) (by simp;omega),O8 hi,List.append_assoc]
  rfl
def Ln (L:Tr3):Prop:=(-40≤L.1∧L.1≤40)∧(-40≤L.2.1∧L.2.1≤40)∧(-3200≤L.2.2∧L.2.2≤3200)
def Pl (P:Tr3):Prop:=(-256000≤P.1∧P.1≤256000)∧(-256000≤P.2.1∧P.2.1≤256000)∧(-3200≤P.2.2∧P.2.2≤3200)
theorem Hm {a b:Int} (p q:Int) (hp:0≤p) (hq:0≤q) (h1: -p≤a∧a≤p) (h2: -q≤b∧b≤q): -(p*q)≤a*b∧a*b≤p*q:=by
 have k1:=Int.mul_nonneg (show 0≤p-a by omega) (show 0≤q+b by omega)
 have k2:=Int.mul_nonneg (show 0≤p+a by omega) (show 0≤q-b by omega)
 have k3:=Int.mul_nonneg (show 0≤p-a by omega) (show 0≤q-b by omega)
 have k4:=Int.mul_nonneg (show 0≤p+a by omega) (show 0≤q+b by omega)
 constructor<;>grind
theorem Zk {l:List Pt} (h:VP l) {i:Nat} (hi:i<l.length):Ln (eLn l i):=by
 have k:=UT (h.on _ (AA hi)) (h.on _ (AA (Nat.mod_lt (i+1) (show 0<l.length by omega))))
 unfold Ln eLn
 unfold Hi at k⊢
 simp only at k⊢
 omega
theorem iW {a b:List Pt} (ha:VP a) (hb:VP b):∀L∈AS a++AS b,Ln L:=fun L hL=>by
 rcases List.mem_append.1 hL with h|h
 ·obtain⟨i,hi,rfl⟩:=FJ.1 h;exact Zk ha hi
 ·obtain⟨i,hi,rfl⟩:=FJ.1 h;exact Zk hb hi
theorem qJ {L P:Tr3} (hL:Ln L) (hP:Pl P):(-10240000≤L.1*P.1∧L.1*P.1≤10240000)∧(-10240000≤L.2.1*P.2.1∧L.2.1*P.2.1≤10240000)∧(-10240000≤L.2.2*P.2.2∧L.2.2*P.2.2≤10240000):=
 ⟨Hm 40 256000 (by omega) (by omega) hL.1 hP.1,Hm 40 256000 (by omega) (by omega) hL.2.1 hP.2.1,Hm 3200 3200 (by omega) (by omega) hL.2.2 hP.2.2⟩
section
variable {A B Ls:List Tr3}
open Classical in
theorem Wx (N:Nat) (hLs:A++B=Ls) (hA:∀L∈Ls,Ln L) (hl:Ls.length≤1000) {P:Tr3} (hP:Pl P):∀(n i:Nat) (c:Bool),i≤Ls.length→Ls.length<n+i→CR N A B P.1 P.2.1 P.2.2 n c i=some (c&&decide (∀k,i≤k→k<Ls.length→0≤evL (ga Ls k) P))
 |0,i,c,h1,h2=>by omega
 |n+1,i,c,h1,h2=>by
  rw[CR,hLs]
  by_cases he:i=Ls.length
  ·subst he
   rw[dge,cF,decide_eq_true (show∀k,Ls.length≤k→k<Ls.length→0≤evL (ga Ls k) P from fun k a b=>by omega),Bool.and_true]
  have hi:i<Ls.length:=by omega
  have e:=qJ (hA _ (Hj hi)) hP
  have eg:Ls.getD (i:Int).toNat (0,0,0)=ga Ls i:=by rw[Int.toNat_natCast];rfl
  rw[dlt hi,cT,eg]
  rw[Ab (fun _=>⟨by omega,by omega⟩),Ab (fun _=>⟨by omega,by omega⟩),Ab (fun _=>by unfold I64;omega),Ab (fun _=>⟨by omega,by omega⟩),Ab (fun _=>⟨by omega,by omega⟩),Ab (fun _=>by unfold I64;omega),Ab (fun _=>by unfold I64;omega),Ab (fun _=>⟨by omega,by omega⟩),Ab (fun _=>⟨by omega,by omega⟩),Ab (fun _=>by unfold I64;omega),Ab (fun _=>by unfold I64;omega),Ab (by unfold I64;omega),←ns]
  rw[Wx N hLs hA hl hP n (i+1) _ (by omega) (by omega),Bool.and_assoc]
  congr 2
  rw[Bool.eq_iff_iff,Bool.and_eq_true,decide_eq_true_eq,decide_eq_true_eq,decide_eq_true_eq]
  constructor
  ·rintro⟨h1,h2⟩ k a b
   by_cases q:k=i
   ·rw[q];exact h1
   ·exact h2 k (by omega) b
  ·intro h
   exact⟨h i (by omega) hi,fun k a b=>h k (by omega) b⟩
def Zl (Ls:List Tr3) (i k:Nat) (P:Tr3):Prop:=(crT (ga Ls i) (ga Ls k)).2.2≠0∧P=nrT (crT (ga Ls i) (ga Ls k))∧∀L∈Ls,0≤evL L P
theorem iX {L M:Tr3} (hL:Ln L) (hM:Ln M):((-128000≤L.2.1*M.2.2∧L.2.1*M.2.2≤128000)∧(-128000≤M.2.1*L.2.2∧M.2.1*L.2.2≤128000))∧((-128000≤L.2.2*M.1∧L.2.2*M.1≤128000)∧(-128000≤M.2.2*L.1∧M.2.2*L.1≤128000))∧(-1600≤L.1*M.2.1∧L.1*M.2.1≤1600)∧(-1600≤M.1*L.2.1∧M.1*L.2.1≤1600):=
 ⟨⟨Hm 40 3200 (by omega) (by omega) hL.2.1 hM.2.2,Hm 40 3200 (by omega) (by omega) hM.2.1 hL.2.2⟩,⟨Hm 3200 40 (by omega) (by omega) hL.2.2 hM.1,Hm 3200 40 (by omega) (by omega) hM.2.2 hL.1⟩,Hm 40 40 (by omega) (by omega) hL.1 hM.2.1,Hm 40 40 (by omega) (by omega) hM.1 hL.2.1⟩
theorem Zm {L M:Tr3} (hL:Ln L) (hM:Ln M):Pl (nrT (crT L M)):=by
 have b:=iX hL hM
 unfold Pl nrT ngT crT
 split<;>simp only<;>omega
theorem MH {i:Nat} (h:i<Ls.length):nth Ls (i:Int)=some ((ga Ls i).1,(ga Ls i).2.1,(ga Ls i).2.2):=by
 rw[ON (0,0,0) (by omega) (by omega),Int.toNat_natCast];rfl
open Classical in
theorem O9 {N:Nat} (hN:1001≤N) (hLs:A++B=Ls) (hA:∀L∈Ls,Ln L) (hl:Ls.length≤1000) {i:Nat} (hi:i<Ls.length):∀(n k:Nat) (out:List Tr3),k≤Ls.length→Ls.length<n+k→out.length≤1000000+k→
  ∃r,B9 N A B i n k out=some r∧r.length≤out.length+(Ls.length-k)∧∀P,P∈r↔P∈out∨∃j,k≤j∧j<Ls.length∧Zl Ls i j P
 |0,k,out,h1,h2,_=>by omega
 |n+1,k,out,h1,h2,ho=>by
  rw[B9,hLs]
  by_cases he:k=Ls.length
  ·subst he
   refine⟨out,by rw[dge,cF],by omega,fun P=>⟨.inl, ?_⟩⟩
   rintro(h|⟨j,a,b,_⟩)
   ·exact h
   ·omega
  have hk:k<Ls.length:=by omega
  have lL:=hA _ (Hj hi)
  have lM:=hA _ (Hj hk)
  have b:=iX lL lM
  have w_:(crT (ga Ls i) (ga Ls k)).2.2=(ga Ls i).1*(ga Ls k).2.1-(ga Ls k).1*(ga Ls i).2.1:=rfl
  rw[dlt hk,cT,MH hi,bS]
  simp only
  rw[MH hk,bS]
  simp only
  rw[Ab (by unfold I64;omega),Ab (by unfold I64;omega),Ab (by unfold I64;omega),Ab (by unfold I64;omega),Ab (by unfold I64;omega),Ab (by unfold I64;omega),Ab (by unfold I64;omega),Ab (by unfold I64;omega),Ab (by unfold I64;omega)]
  by_cases hw:(ga Ls i).1*(ga Ls k).2.1-(ga Ls k).1*(ga Ls i).2.1=0
  ·rw[decide_eq_true hw,cT,Ab (by unfold I64;omega),←ns]
   obtain⟨r,er,hr,h⟩:=O9 hN hLs hA hl hi n (k+1) out (by omega) (by omega) (by omega)
   refine⟨r,er,by omega,fun P=> ?_⟩
   rw[h P]
   constructor
   ·rintro(q|⟨j,a,b,c⟩)
    ·exact .inl q
    ·exact .inr ⟨j,by omega,b,c⟩
   ·rintro(q|⟨j,a,b,c⟩)
    ·exact .inl q
    ·by_cases q:j=k
     ·subst q
      exact absurd (w_.trans hw) c.1
     ·exact .inr ⟨j,by omega,b,c⟩
  have eP:(bif decide ((ga Ls i).1*(ga Ls k).2.1-(ga Ls k).1*(ga Ls i).2.1<0) then(
      gd (I64 (-((ga Ls i).2.1*(ga Ls k).2.2-(ga Ls k).2.1*(ga Ls i).2.2)))<|
      gd (I64 (-((ga Ls i).2.2*(ga Ls k).1-(ga Ls k).2.2*(ga Ls i).1)))<|
      gd (I64 (-((ga Ls i).1*(ga Ls k).2.1-(ga Ls k).1*(ga Ls i).2.1)))<|
      some (-((ga Ls i).2.1*(ga Ls k).2.2-(ga Ls k).2.1*(ga Ls i).2.2),-((ga Ls i).2.2*(ga Ls k).1-(ga Ls k).2.2*(ga Ls i).1),-((ga Ls i).1*(ga Ls k).2.1-(ga Ls k).1*(ga Ls i).2.1)))
     else(
      some ((ga Ls i).2.1*(ga Ls k).2.2-(ga Ls k).2.1*(ga Ls i).2.2,(ga Ls i).2.2*(ga Ls k).1-(ga Ls k).2.2*(ga Ls i).1,(ga Ls i).1*(ga Ls k).2.1-(ga Ls k).1*(ga Ls i).2.1)):Option Tr3)=some (nrT (crT (ga Ls i) (ga Ls k))):=by
   by_cases hn:(ga Ls i).1*(ga Ls k).2.1-(ga Ls k).1*(ga Ls i).2.1<0
   ·rw[decide_eq_true hn,cT,Ab (by unfold I64;omega),Ab (by unfold I64;omega),Ab (by unfold I64;omega)]
    unfold nrT
    rw[if_pos (by rw[w_];exact hn)]
    rfl
   ·rw[decide_eq_false hn,cF]
    unfold nrT
    rw[if_neg (by rw[w_];exact hn)]
    rfl
  rw[decide_eq_false hw,cF,eP]
  have pl:=Zm lL lM
  generalize eQ:nrT (crT (ga Ls i) (ga Ls k))=Q at*
  rw[show(some Q:Option Tr3)=some (Q.1,Q.2.1,Q.2.2) from rfl,bS]
  simp only
  have q24:=Wx N hLs hA hl pl N 0 true (by omega) (by omega)
  rw[Int.natCast_zero] at q24
  rw[q24,bS]
  have mem:(∀j,0≤j→j<Ls.length→0≤evL (ga Ls j) Q)↔∀L∈Ls,0≤evL L Q:=by
   constructor
   ·intro h L hL
    obtain⟨j,hj,rfl⟩:=Ng hL
    exact h j (by omega) hj
   ·intro h j _ hj
    exact h _ (Hj hj)
  by_cases hin:∀L∈Ls,0≤evL L Q
  ·rw[decide_eq_true (mem.2 hin),cT' _ (by rfl),Ab (by omega),Ab (by unfold I64;omega),←ns]
   obtain⟨r,er,hr,h⟩:=O9 hN hLs hA hl hi n (k+1) (out++[(Q.1,Q.2.1,Q.2.2)]) (by omega) (by omega) (by simp;omega)
   refine⟨r,er,by simp at hr;omega,fun P=> ?_⟩
   rw[h P,List.mem_append,List.mem_singleton]
   constructor
   ·rintro((q|q)|⟨j,a,b,c⟩)
    ·exact .inl q
    ·exact .inr ⟨k,by omega,hk,by rw[w_];exact hw,by rw[eQ];exact q,by rw[q];exact hin⟩
    ·exact .inr ⟨j,by omega,b,c⟩
   ·rintro(q|⟨j,a,b,c⟩)
    ·exact .inl (.inl q)
    ·by_cases q:j=k
     ·subst q
      exact .inl (.inr (by rw[←eQ];exact c.2.1))
     ·exact .inr ⟨j,by omega,b,c⟩
  ·rw[decide_eq_false (fun q=>hin (mem.1 q)),cF' _ (by rfl),Ab (by unfold I64;omega),←ns]
   obtain⟨r,er,hr,h⟩:=O9 hN hLs hA hl hi n (k+1) out (by omega) (by omega) (by omega)
   refine⟨r,er,by omega,fun P=> ?_⟩
   rw[h P]
   constructor
   ·rintro(q|⟨j,a,b,c⟩)
    ·exact .inl q
    ·exact .inr ⟨j,by omega,b,c⟩
   ·rintro(q|⟨j,a,b,c⟩)
    ·exact .inl q
    ·by_cases q:j=k
     ·subst q
      exact absurd (by rw[←eQ,←c.2.1];exact c.2.2) hin
     ·exact .inr ⟨j,by omega,b,c⟩
theorem Wy {N:Nat} (hN:1001≤N) (hLs:A++B=Ls) (hA:∀L∈Ls,Ln L) (hl:Ls.length≤30):∀(n i:Nat) (out:List Tr3),i≤Ls.length→Ls.length<n+i→out.length≤30*i→
  ∃r,CS N A B n i out=some r∧r.length≤900∧∀P,P∈r↔P∈out∨∃g j,i≤g∧g<j∧j<Ls.length∧Zl Ls g j P
 |0,i,out,h1,h2,_=>by omega
 |n+1,i,out,h1,h2,ho=>by
  rw[CS,hLs]
  by_cases he:i=Ls.length
  ·subst he
   refine⟨out,by rw[dge,cF],by omega,fun P=>⟨.inl, ?_⟩⟩
   rintro(h|⟨g,j,a,b,c,_⟩)
   ·exact h
   ·omega
  have hi:i<Ls.length:=by omega
  rw[dlt hi,cT,Ab (by unfold I64;omega),←ns]
  obtain⟨r,er,hr,h⟩:=O9 hN hLs hA (by omega) hi N (i+1) out (by omega) (by omega) (by omega)
  rw[er,bS,Ab (by unfold I64;omega)]
  obtain⟨r2,er2,hr2,h2⟩:=Wy hN hLs hA hl n (i+1) r (by omega) (by omega) (by omega)
  refine⟨r2,er2,hr2,fun P=> ?_⟩
  rw[h2 P,h P]
  constructor
  ·rintro((q|⟨j,a,b,c⟩)|⟨g,j,a,b,c,d⟩)
   ·exact .inl q
   ·exact .inr ⟨i,j,by omega,by omega,b,c⟩
   ·exact .inr ⟨g,j,by omega,b,c,d⟩
  ·rintro(q|⟨g,j,a,b,c,d⟩)
   ·exact .inl (.inl q)
   ·by_cases q:g=i
    ·subst q
     exact .inl (.inr ⟨j,by omega,c,d⟩)
    ·exact .inr ⟨g,j,by omega,b,c,d⟩
end
theorem qK {Q R:Tr3} (hQ:Pl Q) (hR:Pl R):(((-819200000≤Q.2.1*R.2.2∧Q.2.1*R.2.2≤819200000)∧(-819200000≤Q.2.2*R.2.1∧Q.2.2*R.2.1≤819200000))∧((-819200000≤Q.1*R.2.2∧Q.1*R.2.2≤819200000)∧(-819200000≤Q.2.2*R.1∧Q.2.2*R.1≤819200000))∧(-65536000000≤Q.1*R.2.1∧Q.1*R.2.1≤65536000000)∧(-65536000000≤Q.2.1*R.1∧Q.2.1*R.1≤65536000000)):=
 ⟨⟨Hm 256000 3200 (by omega) (by omega) hQ.2.1 hR.2.2,Hm 3200 256000 (by omega) (by omega) hQ.2.2 hR.2.1⟩,⟨Hm 256000 3200 (by omega) (by omega) hQ.1 hR.2.2,Hm 3200 256000 (by omega) (by omega) hQ.2.2 hR.1⟩,Hm 256000 256000 (by omega) (by omega) hQ.1 hR.2.1,Hm 256000 256000 (by omega) (by omega) hQ.2.1 hR.1⟩
section
variable {l:List Tr3}
theorem iY {N:Nat} (hN:1001≤N) (hl:l.length≤1000) (hP:∀P∈l,Pl P) {i k:Nat} (hi:i<l.length) (hk:k<l.length):
  (Bu N k l i N 0=some (.inl ())∧∀n,n<k→dtT (ga l i) (ga l k) (ga l n)=0)∨(Bu N k l i N 0=some (.inr true)∧∃n,n<k∧dtT (ga l i) (ga l k) (ga l n)≠0):=by
 have step:∀m (n:Nat),n<k→Bu N k l i (m+1) n=if dtT (ga l i) (ga l k) (ga l n)≠0 then some (.inr true) else Bu N k l i m ((n+1:Nat):Int):=fun m n hn=>by
  have p1:=hP _ (Hj hi)
  have b:=qK (hP _ (Hj hk)) (hP _ (Hj (show n<l.length by omega)))
  rw[Bu,decide_eq_true (show(n:Int)<k by omega),cT,MH hi,bS]
  simp only
  rw[MH hk,bS]
  simp only
  rw[MH (show n<l.length by omega),bS]
  simp only
  generalize ga l i=P at*
  generalize ga l k=Q at*
  generalize ga l n=R at*
  have m1:=Hm (a:=P.1) (b:=Q.2.1*R.2.2-Q.2.2*R.2.1) 256000 1638400000 (by omega) (by omega) p1.1 (by omega)
  have m2:=Hm (a:=P.2.1) (b:=Q.1*R.2.2-Q.2.2*R.1) 256000 1638400000 (by omega) (by omega) p1.2.1 (by omega)
  have m3:=Hm (a:=P.2.2) (b:=Q.1*R.2.1-Q.2.1*R.1) 3200 131072000000 (by omega) (by omega) p1.2.2 (by omega)
  rw[Ab (by unfold I64;omega),Ab (by unfold I64;omega),Ab (by unfold I64;omega),Ab (by unfold I64;omega),Ab (by unfold I64;omega),Ab (by unfold I64;omega),Ab (by unfold I64;omega),Ab (by unfold I64;omega),Ab (by unfold I64;omega),Ab (by unfold I64;omega),Ab (by unfold I64;omega),Ab (by unfold I64;omega),Ab (by unfold I64;omega),Ab (by unfold I64;omega)]
  have e:P.1*(Q.2.1*R.2.2-Q.2.2*R.2.1)-P.2.1*(Q.1*R.2.2-Q.2.2*R.1)+P.2.2*(Q.1*R.2.1-Q.2.1*R.1)=dtT P Q R:=rfl
  rw[e]
  by_cases h:dtT P Q R≠0
  ·rw[decide_eq_true h,cT,if_pos h]
  ·rw[decide_eq_false h,cF,if_neg h,Ab (by unfold I64;omega),ns]
 have key:=GB (L:=Bu N k l i) (len:=k) (fun n=>if dtT (ga l i) (ga l k) (ga l n)≠0 then some true else none)
  (fun m n hn hf=>by
   rw[step m n hn,if_neg]
   intro h;rw[if_pos h] at hf;cases hf) (fun m n r hn hf=>by
   by_cases h:dtT (ga l i) (ga l k) (ga l n)≠0
   ·rw[if_pos h] at hf;rw[step m n hn,if_pos h,←yJ hf]
   ·rw[if_neg h] at hf;cases hf) (fun m=>by
   rw[Bu,decide_eq_false (by omega),cF]) N (by omega)
 rcases key with⟨e,h⟩|⟨j,r,a2,a3,a4,e⟩
 ·refine .inl ⟨e,fun n hn=> ?_⟩
  have:=h n hn
  by_cases q:dtT (ga l i) (ga l k) (ga l n)≠0
  ·rw[if_pos q] at this;cases this
  ·omega
 ·by_cases q:dtT (ga l i) (ga l k) (ga l j)≠0
  ·rw[if_pos q] at a3
   rw[←yJ a3] at e
   exact .inr ⟨e,j,a2,q⟩
  ·rw[if_neg q] at a3;cases a3
theorem iZ {N:Nat} (hN:1001≤N) (hl:l.length≤1000) (hP:∀P∈l,Pl P) {i:Nat} (hi:i<l.length):
  (BP N i l N 0=some (.inl ())∧∀k,k<i→∀n,n<k→dtT (ga l i) (ga l k) (ga l n)=0)∨(BP N i l N 0=some (.inr true)∧∃k n,k<i∧n<k∧dtT (ga l i) (ga l k) (ga l n)≠0):=by
 have:∀m (k:Nat),k≤i→i<m+k→(BP N i l m k=some (.inl ())∧∀j,k≤j→j<i→∀n,n<j→dtT (ga l i) (ga l j) (ga l n)=0)∨(BP N i l m k=some (.inr true)∧∃j n,j<i∧n<j∧dtT (ga l i) (ga l j) (ga l n)≠0):=by
  intro m
  induction m with
  |zero=>intro k a b;omega
  |succ m ih=>
   intro k a b
   rw[BP]
   by_cases he:k=i
   ·subst he
    exact .inl ⟨by rw[decide_eq_false (by omega),cF],fun j a b=>by omega⟩
   rw[decide_eq_true (show(k:Int)<i by omega),cT]
   rcases iY hN hl hP hi (show k<l.length by omega) with⟨e,h⟩|⟨e,n,hn,h⟩
   ·rw[e,bS]
    simp only
    rw[Ab (by unfold I64;omega),←ns]
    rcases ih (k+1) (by omega) (by omega) with⟨e2,h2⟩|h2
    ·refine .inl ⟨e2,fun j a b=> ?_⟩
     by_cases q:j=k
     ·rw[q];exact h
     ·exact h2 j (by omega) b
    ·exact .inr h2
   ·rw[e,bS]
    simp only
    exact .inr ⟨yT,k,n,by omega,hn,h⟩
 rcases this N 0 (by omega) (by omega) with⟨e,h⟩|h
 ·exact .inl ⟨e,fun k hk=>h k (by omega) hk⟩
 ·exact .inr h
theorem jA {N:Nat} (hN:1001≤N) (hl:l.length≤1000) (hP:∀P∈l,Pl P):
  (BQ N l N 0=some (.inl ())∧∀i,i<l.length→∀k,k<i→∀n,n<k→dtT (ga l i) (ga l k) (ga l n)=0)∨(BQ N l N 0=some (.inr true)∧∃i k n,i<l.length∧k<i∧n<k∧dtT (ga l i) (ga l k) (ga l n)≠0):=by
 have:∀m (k:Nat),k≤l.length→l.length<m+k→(BQ N l m k=some (.inl ())∧∀i,k≤i→i<l.length→∀j,j<i→∀n,n<j→dtT (ga l i) (ga l j) (ga l n)=0)∨(BQ N l m k=some (.inr true)∧∃i j n,i<l.length∧j<i∧n<j∧dtT (ga l i) (ga l j) (ga l n)≠0):=by
  intro m
  induction m with
  |zero=>intro k a b;omega
  |succ m ih=>
   intro k a b
   rw[BQ]
   by_cases he:k=l.length
   ·subst he
    exact .inl ⟨by rw[dge,cF],fun j a b=>by omega⟩
   have hk:k<l.length:=by omega
   rw[dlt hk,cT]
   rcases iZ hN hl hP hk with⟨e,h⟩|⟨e,j,n,hj,hn,h⟩
   ·rw[e,bS]
    simp only
    rw[Ab (by unfold I64;omega),←ns]
    rcases ih (k+1) (by omega) (by omega) with⟨e2,h2⟩|h2
    ·refine .inl ⟨e2,fun j a b=> ?_⟩
     by_cases q:j=k
     ·rw[q];exact h
     ·exact h2 j (by omega) b
    ·exact .inr h2
   ·rw[e,bS]
    simp only
    exact .inr ⟨yT,k,j,n,hk,hj,hn,h⟩
 rcases this N 0 (by omega) (by omega) with⟨e,h⟩|h
 ·exact .inl ⟨e,fun k hk=>h k (by omega) hk⟩
 ·exact .inr h
theorem Sg (P Q R:Tr3):dtT Q P R= -dtT P Q R:=by unfold dtT;grind
theorem Sh (P Q R:Tr3):dtT P R Q= -dtT P Q R:=by unfold dtT;grind
theorem Yz {i k n:Nat} (hi:i<l.length) (hk:k<l.length) (hn:n<l.length) (h:dtT (ga l i) (ga l k) (ga l n)≠0):∃x y z,x<l.length∧y<x∧z<y∧dtT (ga l x) (ga l y) (ga l z)≠0:=by
 have s1:=Sg (ga l i) (ga l k) (ga l n)
 have s2:=Sh (ga l i) (ga l k) (ga l n)
 have s3:=Sh (ga l k) (ga l i) (ga l n)
 have s4:=Sg (ga l i) (ga l n) (ga l k)
 have s5:=Sh (ga l n) (ga l i) (ga l k)
 have n1:i≠k:=fun q=>by subst q;omega
 have n2:k≠n:=fun q=>by subst q;omega
 have n3:i≠n:=fun q=>by subst q;have:=Sg (ga l i) (ga l k) (ga l i);omega
 by_cases a:k<i<;>by_cases b:n<k<;>by_cases c:n<i
 ·exact⟨i,k,n,hi,a,b,h⟩
 ·omega
 ·exact⟨i,n,k,hi,c,by omega,by omega⟩
 ·exact⟨n,i,k,hn,by omega,a,by omega⟩
 ·exact⟨k,i,n,hk,by omega,c,by omega⟩
 ·exact⟨k,n,i,hk,b,by omega,by omega⟩
 ·omega
 ·exact⟨n,k,i,hn,by omega,by omega,by omega⟩
end
open Classical in
theorem Si {N:Nat} (hN:1001≤N) {a b:List Pt} (ha:VP a) (hb:VP b):BO N a b=some (decide (¬apart a b)):=by
 have a8:=ha.l8
 have b8:=hb.l8
 unfold BO
 rw[Da (by omega),Da (by omega),HF.2 ha,HF.2 hb,bS,Ab (fun _=>Option.isSome_some),Option.getD_some,cF' _ (by rfl)]
 have e2:=Zi N ha N 0 [] (by omega) (by omega) (by simp)
 have e4:=Zj N hb N 0 [] (by omega) (by omega) (by simp)
 rw[Int.natCast_zero,List.nil_append,List.drop_zero] at e2 e4
 rw[e2,bS,e4,bS,Ab (by rw[HG,HG];omega)]
 have len:(AS a++AS b).length=a.length+b.length:=by rw[List.length_append,HG,HG]
 have lnA:=iW ha hb
 obtain⟨r,er,hr,hm⟩:=Wy (N:=N) hN (A:=AS a) (B:=AS b) rfl lnA (by omega) N 0 [] (by omega) (by omega) (by simp)
 rw[Int.natCast_zero] at er
 rw[er,bS]
 have mem:∀P,P∈r↔Cmn (AS a++AS b) P:=fun P=>by
  rw[hm P]
  constructor
  ·rintro(q|⟨g,j,_,x,y,z⟩)
   ·simp at q
   ·exact⟨g,j,x,y,z⟩
  ·rintro⟨g,j,x,y,z⟩
   exact .inr ⟨g,j,by omega,x,y,z⟩
 have pl:∀P∈r,Pl P:=fun P hP=>by
  obtain⟨i,k,x,y,z,e,_⟩:=(mem P).1 hP
  rw[e]
  exact Zm (lnA _ (Hj (by omega))) (lnA _ (Hj y))
 rcases jA hN (by omega) pl with⟨e,h⟩|⟨e,i,k,n,hi,hk,hn,h⟩
 ·rw[e,bS]
  simp only
  rw[decide_eq_false]
  intro hap
  obtain⟨P,Q,R,hP,hQ,hR,hd⟩:=Wo ha hb hap
  obtain⟨i,hi,rfl⟩:=Ng ((mem P).2 hP)
  obtain⟨k,hk,rfl⟩:=Ng ((mem Q).2 hQ)
  obtain⟨n,hn,rfl⟩:=Ng ((mem R).2 hR)
  obtain⟨x,y,z,h1,h2,h3,h4⟩:=Yz hi hk hn hd
  exact h4 (h x h1 y h2 z h3)
 ·rw[e,bS]
  simp only
  rw[decide_eq_true]
  intro hap
  exact h (Yw ha hb hap ((mem _).1 (Hj hi)).inK ((mem _).1 (Hj (show k<r.length by omega))).inK ((mem _).1 (Hj (show n<r.length by omega))).inK)
theorem Wz {N:Nat} (hN:1001≤N) {a b:List Pt} (h:¬(VP a∧VP b)):FT N a b=some (0,0,false):=by
 unfold FT
 by_cases ha:VP a
 ·have hb:¬VP b:=fun q=>h ⟨ha,q⟩
  rw[EY (by omega),EY (by omega),HF.2 ha,GO.2 hb,bS,Ab (fun _=>Option.isSome_some),cT' _ (by rfl)]
 ·rw[EY (by omega),GO.2 ha,bS,Ab (fun q=>by simp at q),cT' _ (by rfl)]
open Classical in
theorem Qp {N:Nat} (hN:1001≤N) (a b:List Pt):∃r,CL N a b=some r∧BO N a b=some r:=by
 by_cases ha:VP a
 ·by_cases hb:VP b
  ·refine⟨_,JU hN ha hb, ?_⟩
   rw[Si hN ha hb]
   congr 1
   rw[Bool.eq_iff_iff,decide_eq_true_eq,Bool.not_eq_true',←Bool.not_eq_true,J2]
  ·refine⟨false, ?_, ?_⟩
   ·unfold CL
    rw[Wz hN (fun q=>hb q.2),bS]
    simp only
    rw[EY (by omega),EY (by omega),HF.2 ha,GO.2 hb,bS,Ab (fun _=>Option.isSome_some)]
    rfl
   ·unfold BO
    rw[Da (by omega),Da (by omega),HF.2 ha,GO.2 hb,bS,Ab (fun _=>Option.isSome_some),cT' _ (by rfl)]
 ·refine⟨false, ?_, ?_⟩
  ·unfold CL
   rw[Wz hN (fun q=>ha q.1),bS]
   simp only
   rw[EY (by omega),GO.2 ha,bS,Ab (fun q=>by cases q)]
   rfl
  ·unfold BO
   rw[Da (by omega),GO.2 ha,bS,Ab (fun q=>by simp at q),cT' _ (by rfl)]
def lxl (p q:Pt):Prop:=p.1<q.1∨(p.1=q.1∧p.2<q.2)
def ZZ (a b:List Pt) (p:Pt):Prop:=sd a p=0∧sd b p=0
structure InvQ (a b:List Pt) (i k:Nat) (l:List Pt):Prop where
 len:l.length≤41*i+k
 pw:l.Pairwise lxl
 mem:∀p,p∈l↔∃x y:Nat,(x<i∨(x=i∧y<k))∧y≤40∧p=((x:Int),(y:Int))∧ZZ a b p
section
variable {a b:List Pt}
end
end Go.Proofs.YtciphecegkfaiaaGreat.Am
