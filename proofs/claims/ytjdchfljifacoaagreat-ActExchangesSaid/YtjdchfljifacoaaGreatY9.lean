import Derived.Test.YtjdchfljifacoaaGreatY6
set_option linter.all false
namespace Go.Proofs.YtjdchfljifacoaaGreat.Am
def Aiw(a:Ac)(t:Int):Prop:=(a.1=2\/a.1=3\/a.1=4)/\t=a.2.2.1
def Ait(a:Ac)(f:List Un)(u:Un):Prop:=(a.1=1/\u=a.2.1)\/∃v∈f,v.1=a.2.2.1/\((a.1=3/\(u=Ia v (Ka v.2.2.2.1 a.2.2.2.1 a.2.2.2.2.1).1\/u=Ps (Ia v (Ka v.2.2.2.1 a.2.2.2.1 a.2.2.2.2.1).2.1) a.2.1.1))\/(a.1=4/\u=S5 (a.2.2.2.1,a.2.2.2.2.1) v))
def Aiu(a:Ac)(m:Mk):Prop:=(a.1=2\/a.1=3->m.2.1≠a.2.2.1)/\(a.1=6\/a.1=7->m.1≠a.2.2.1)
def Aiv(a:Ac)(ms:List Mk)(m:Mk):Prop:=(a.1=5/\m=a.2.2.2.2.2)\/((a.1=6\/a.1=7)/\∃x∈ms,x.1=a.2.2.1/\m=TF a.2.2.1 (decide (a.1=7)) x)
theorem Afm{f:List Un}{t:Int}{u:Un}:u∈EZ f t↔u∈f/\¬u.1=t:=by unfold EZ;rw[vE,bK]
theorem Adk{f:List Un}(h:FV f){t:Int}{u:Un}:f.find? (λu=>decide (u.1=t))=some u↔u∈f/\u.1=t:=by
 rcases OJ h t with⟨e,_,n⟩|⟨v,hv,e1,e,_⟩
 ·rw[e];exact⟨λh=>(by cases h),λh=>(n ⟨u,h⟩).elim⟩
 ·rw[e];constructor
  ·intro h;cases h;exact⟨hv,e1⟩
  ·rintro⟨hu,e2⟩;obtain⟨i,hi,rfl⟩:=Lm hu;obtain⟨j,hj,rfl⟩:=Lm hv;rw[h.uniq hi hj (e2.trans e1.symm)]
theorem Afr(id:Int)(b:Bool)(m:Mk):(TF id b m).1=m.1/\(TF id b m).2.1=m.2.1/\(TF id b m).2.2.1=m.2.2.1/\(TF id b m).2.2.2.1=m.2.2.2.1:=by unfold TF;split<;>exact⟨rfl,rfl,rfl,rfl⟩
theorem AfG{id:Int}{b:Bool}{m:Mk}(h:m.1≠id):TF id b m=m:=dY h
theorem AfH{ms:List Mk}{id:Int}{b:Bool}{m:Mk}:m∈ms.map (TF id b)↔(m∈ms/\m.1≠id)\/∃x∈ms,x.1=id/\m=TF id b x:=by
 rw[tH];constructor
 ·rintro⟨x,hx,rfl⟩;by_cases c:x.1=id
  ·exact .inr ⟨x,hx,c,rfl⟩
  ·rw[AfG c];exact .inl ⟨hx,c⟩
 ·rintro(⟨h1,h2⟩|⟨x,hx,_,rfl⟩)
  ·exact⟨m,h1,AfG h2⟩
  ·exact⟨x,hx,rfl⟩
theorem Adm{s t:F8}{a:Ac}(fa:FA a)(h:FV s.1)(e:It s a=some t):(∀u,u∈t.1↔(u∈s.1/\¬Aiw a u.1)\/Ait a s.1 u)/\∀m,m∈t.2↔(m∈s.2/\Aiu a m)\/Aiv a s.2 m:=by
 obtain⟨f,ms⟩:=s;unfold Aiw Ait Aiu Aiv;cases fa with
 |build hu=>
  rw[Abq]at e;split at e
  ·cases e;simp[kQ]
  ·cases e
 |remove hi=>
  rw[Abr]at e;split at e
  ·cases e;simp[Afm,I2]
  ·cases e
 |cut hi hj hd h1 h2 h3=>
  rw[Abs]at e;split at e
  ·cases e
  ·rename_i u hu;split at e
   ·cases e
    refine⟨λw=>?_,λm=>by simp[I2]⟩;simp only[kQ,Afm,Adk h]at hu⊢;constructor
    ·rintro((⟨q1,q2⟩|q)|q)
     ·exact .inl ⟨q1,λw=>q2 w.2⟩
     ·exact .inr (.inr ⟨u,hu.1,hu.2,.inl ⟨trivial,.inl q⟩⟩)
     ·exact .inr (.inr ⟨u,hu.1,hu.2,.inl ⟨trivial,.inr q⟩⟩)
    ·rintro(⟨q1,q2⟩|q|⟨v,v1,v2,q⟩)
     ·exact .inl (.inl ⟨q1,λw=>q2 ⟨.inr (.inl trivial),w⟩⟩)
     ·exact absurd q.1 (by decide)
     ·have:v=u:=by have h1:=(Adk h).2 ⟨v1,v2⟩;have h2:=(Adk h).2 hu;rw[h1]at h2;exact yJ h2
      subst this;rcases q with⟨_,q|q⟩|⟨q,_⟩
      ·exact .inl (.inr q)
      ·exact .inr q
      ·exact absurd q (by decide)
   ·cases e
 |move hi h1 h2 h3=>
  rw[Abt]at e;split at e
  ·cases e
  ·rename_i u hu;split at e
   ·cases e
    refine⟨λw=>?_,λm=>by simp⟩;simp only[kQ,Afm,Adk h]at hu⊢;constructor
    ·rintro(⟨q1,q2⟩|q)
     ·exact .inl ⟨q1,λw=>q2 w.2⟩
     ·exact .inr (.inr ⟨u,hu.1,hu.2,.inr ⟨trivial,q⟩⟩)
    ·rintro(⟨q1,q2⟩|q|⟨v,v1,v2,q⟩)
     ·exact .inl ⟨q1,λw=>q2 ⟨.inr (.inr trivial),w⟩⟩
     ·exact absurd q.1 (by decide)
     ·have:v=u:=by have h1:=(Adk h).2 ⟨v1,v2⟩;have h2:=(Adk h).2 hu;rw[h1]at h2;exact yJ h2
      subst this;rcases q with⟨q,_⟩|⟨_,q⟩
      ·exact absurd q (by decide)
      ·exact .inr q
   ·cases e
 |mark hm=>
  rw[Abu]at e;split at e
  ·cases e
  ·cases e;simp[Xp]
 |close hi=>
  rw[Abv]at e;split at e
  ·cases e;simp[AfH]
  ·cases e
 |opn hi=>
  rw[Abw]at e;split at e
  ·cases e;simp[AfH]
  ·cases e
theorem Afy{a:Ac}(fa:FA a){t:Int}(h:Aiw a t):t∈(Qu a).1:=by
 unfold Qu;rw[eG fa];obtain⟨h,rfl⟩:=h;cases fa with
 |build _=>simp at h
 |remove _=>simp
 |cut _ _ _ _ _ _=>simp;omega
 |move _ _ _ _=>simp
 |mark _=>simp at h
 |close _=>simp at h
 |opn _=>simp at h
theorem AfT{a:Ac}(fa:FA a){f:List Un}{u:Un}(h:Ait a f u):u.1∈(Qu a).1:=by
 unfold Qu;rw[eG fa];rcases h with⟨h,e⟩|⟨v,v1,v2,⟨h,e⟩|⟨h,e⟩⟩
 ·rw[eG h,e];simp
 ·rw[dY (by omega),eG h];rcases e with rfl|rfl
  ·show v.1∈_;rw[v2];simp;omega
  ·show a.2.1.1∈_;simp;omega
 ·rw[dY (by omega),dY (by omega),dY (by omega),dY (by omega),e];show v.1∈_;rw[v2];simp
theorem Af1{a:Ac}(fa:FA a)(h:a.1=2\/a.1=3\/a.1=4):a.2.2.1∈(Qu a).1:=Afy fa ⟨h,rfl⟩
theorem Afs{a:Ac}(fa:FA a)(h:a.1=6\/a.1=7):a.2.2.1∈(Qu a).2:=by unfold Qu;rw[eG fa];cases fa<;>simp at h<;>simp
theorem AfU{a:Ac}(fa:FA a){ms:List Mk}{m:Mk}(h:Aiv a ms m):m.1∈(Qu a).2:=by
 rcases h with⟨h,rfl⟩|⟨h,x,hx,e,rfl⟩
 ·unfold Qu;rw[eG fa];cases fa<;>simp at h<;>simp
 ·rw[(Afr _ _ _).1,e];exact Afs fa h
theorem Ahv{a:Ac}(fa:FA a)(h:a.1=5):a.2.2.2.2.2.2.1∈(Qu a).1/\a.2.2.2.2.2.1∈(Qu a).2:=by unfold Qu;rw[eG fa];cases fa<;>simp at h<;>simp
theorem Afz{s t:F8}{a:Ac}(fa:FA a)(e:It s a=some t)(h:a.1=6\/a.1=7):∃x∈s.2,x.1=a.2.2.1/\x.2.2.2.2≠decide (a.1=7):=by
 obtain⟨f,ms⟩:=s;cases fa with
 |close _=>
  rw[Abv]at e;split at e
  ·rename_i g;exact g
  ·cases e
 |opn _=>
  rw[Abw]at e;split at e
  ·rename_i g;exact g
  ·cases e
 |_=>simp at h
theorem Afn{f:List Un}{ms:List Mk}(h:MV f ms){x y:Mk}(hx:x∈ms)(hy:y∈ms)(e:x.1=y.1):x=y:=by
 obtain⟨i,hi,rfl⟩:=Ml hx;obtain⟨j,hj,rfl⟩:=Ml hy;have:i=j:=by
  apply Ld;intro hne;by_cases c:i<j
  ·have:=I1.1 h.srt i j c hj;omega
  ·have:=I1.1 h.srt j i (by omega) hi;omega
 rw[this]
theorem AfI{E:Type}{key:E->Int}{l m:List E}(hl:l.Pairwise λa b=>key a<key b)(hm:m.Pairwise λa b=>key a<key b)(h:∀x,x∈l↔x∈m):l=m:=by
 have n1:l.Nodup:=hl.imp λh e=>by rw[e]at h;omega
 have n2:m.Nodup:=hm.imp λh e=>by rw[e]at h;omega
 have p:l.Perm m:=(List.perm_ext_iff_of_nodup n1 n2).2 h;refine List.Perm.eq_of_pairwise (le:=λa b=>key a<key b) (λa b _ _ h1 h2=>by omega) hl hm p
section
variable{s s1 s2 p q:F8}{a b:Ac}
theorem AfJ(hs:SV s.1 s.2)(fa:FA a)(fb:FA b)(e:It s a=some s1)(hd:∀x∈(Qu a).1,x∉(Qu b).1)(u:Un):Ait b s1.1 u↔Ait b s.1 u:=by
 have em:=(Adm fa hs.1 e).1;unfold Ait;refine or_congr Iff.rfl ⟨?_,?_⟩
 ·rintro⟨v,hv,e1,h⟩;have nb:v.1∈(Qu b).1:=by rw[e1];exact Af1 fb (by rcases h with h|h<;>omega)
  rcases(em v).1 hv with g|g
  ·exact⟨v,g.1,e1,h⟩
  ·exact(hd _ (AfT fa g) nb).elim
 ·rintro⟨v,hv,e1,h⟩;have nb:v.1∈(Qu b).1:=by rw[e1];exact Af1 fb (by rcases h with h|h<;>omega)
  exact⟨v,(em v).2 (.inl ⟨hv,λr=>hd _ (Afy fa r) nb⟩),e1,h⟩
theorem AfL(hs:SV s.1 s.2)(fa:FA a)(fb:FA b)(e1:It s a=some s1)(e2:It s1 b=some p)(hm:∀x∈(Qu a).2,x∉(Qu b).2)(m:Mk):Aiv b s1.2 m↔Aiv b s.2 m:=by
 have em:=(Adm fa hs.1 e1).2;unfold Aiv;refine or_congr Iff.rfl (and_congr_right λhk=>?_);obtain⟨y,hy,y1,_⟩:=Afz fb e2 hk;have ny:y.1∈(Qu b).2:=by rw[y1];exact Afs fb hk
 have hy2:y∈s.2:=by
  rcases(em y).1 hy with g|g
  ·exact g.1
  ·exact(hm _ (AfU fa g) ny).elim
 constructor
 ·rintro⟨x,hx,q1,q2⟩;rcases(em x).1 hx with g|g
  ·exact⟨x,g.1,q1,q2⟩
  ·exact(hm _ (AfU fa g) (by rw[q1,<-y1];exact ny)).elim
 ·rintro⟨x,hx,q1,q2⟩;rw[Afn hs.2 hx hy2 (q1.trans y1.symm)]at q2;exact⟨y,hy,y1,q2⟩
theorem AfM(hs:SV s.1 s.2)(fa:FA a)(fb:FA b)(e1:It s a=some s1)(e2:It s b=some s2)(e3:It s2 a=some q)(hd:∀x∈(Qu a).1,x∉(Qu b).1)(hm:∀x∈(Qu a).2,x∉(Qu b).2){m:Mk}(h:Aiv a s.2 m):Aiu b m:=by
 rcases h with⟨h5,rfl⟩|⟨hk,x,hx,q1,rfl⟩
 ·have:=Ahv fa h5;exact⟨λhb e=>hd _ this.1 (by rw[e];exact Af1 fb (by omega)),λhb e=>hm _ this.2 (by rw[e];exact Afs fb hb)⟩
 ·obtain⟨y,hy,y1,_⟩:=Afz fa e3 hk;have em:=(Adm fb hs.1 e2).2;have na:y.1∈(Qu a).2:=by rw[y1];exact Afs fa hk
  have:y∈s.2/\Aiu b y:=by
   rcases(em y).1 hy with g|g
   ·exact g
   ·exact(hm _ na (AfU fb g)).elim
  rw[Afn hs.2 hx this.1 (q1.trans y1.symm)];have so:=Afr a.2.2.1 (decide (a.1=7)) y;exact⟨λhb=>by rw[so.2.1];exact this.2.1 hb,λhb=>by rw[so.1];exact this.2.2 hb⟩
theorem Ahw(fa:FA a)(fb:FA b)(h1:Ig s a=some s1)(h2:Ig s1 b=some p)(h3:Ig s b=some s2)(h4:Ig s2 a=some q)(hd:∀x∈(Qu a).1,x∉(Qu b).1)(hm:∀x∈(Qu a).2,x∉(Qu b).2):p=q:=by
 obtain⟨hs,_,e1,hs1⟩:=Vj h1;obtain⟨_,_,e2,hp⟩:=Vj h2;obtain⟨_,_,e3,hs2⟩:=Vj h3;obtain⟨_,_,e4,hq⟩:=Vj h4;have hd':∀x∈(Qu b).1,x∉(Qu a).1:=λx hx hy=>hd x hy hx
 have hm':∀x∈(Qu b).2,x∉(Qu a).2:=λx hx hy=>hm x hy hx
 have m1:=Adm fa hs.1 e1;have m2:=Adm fb hs1.1 e2;have m3:=Adm fb hs.1 e3;have m4:=Adm fa hs2.1 e4;refine IE (AfI hp.1.srt hq.1.srt λu=>?_) (AfI hp.2.srt hq.2.srt λm=>?_)
 ·rw[m2.1,m4.1,AfJ hs fa fb e1 hd,AfJ hs fb fa e3 hd',m1.1,m3.1];have k1:Ait a s.1 u->¬Aiw b u.1:=λh r=>hd _ (AfT fa h) (Afy fb r)
  have k2:Ait b s.1 u->¬Aiw a u.1:=λh r=>hd' _ (AfT fb h) (Afy fa r)
  grind
 ·rw[m2.2,m4.2,AfL hs fa fb e1 e2 hm,AfL hs fb fa e3 e4 hm',m1.2,m3.2];have k1:Aiv a s.2 m->Aiu b m:=AfM hs fa fb e1 e3 e4 hd hm;have k2:Aiv b s.2 m->Aiu a m:=AfM hs fb fa e3 e1 e2 hd' hm';grind
end
