import Derived.Test.YtdabfcbelkjmgaaGreatDoorA5
namespace Go.Proofs.YtdabfcbelkjmgaaGreatDoor.Am
set_option linter.unusedSimpArgs false
set_option linter.unusedVariables false
open Go
abbrev Bt:=List AV→Option (Prop×AV)
def Ef:List (Nat×Bt)→Nat→List AV→Option (Prop×AV)
 |[],_,_=>none
 |(k,s)::r,f,args=>if k=f then s args else Ef r f args
def noE:Nat→List AV→List AV→Option (Prop×AV×List (Nat×AV)):=fun _ _ _=>none
def noP:Nat→List AV→List AV→Option (Prop×Value):=fun _ _ _=>none
def CC (l:List (Nat×Bt)):Tab:=⟨Ef l,false,false,noE,noP⟩
theorem Om (l:List (Nat×Bt)):(CC l).f=Ef l:=rfl
theorem Oo (l:List (Nat×Bt)):(CC l).w=false:=rfl
def JB (l:List (Nat×Bt)):Tab:=⟨Ef l,true,false,noE,noP⟩
theorem Po (l:List (Nat×Bt)):(JB l).f=Ef l:=rfl
theorem Pp (l:List (Nat×Bt)):(JB l).w=true:=rfl
theorem Oq (l:List (Nat×Bt)):(CC l).m=false:=rfl
theorem Pq (l:List (Nat×Bt)):(JB l).m=false:=rfl
def JC (l:List (Nat×Bt)):Tab:=⟨Ef l,false,true,noE,noP⟩
theorem Pr (l:List (Nat×Bt)):(JC l).f=Ef l:=rfl
theorem Ps (l:List (Nat×Bt)):(JC l).w=false:=rfl
theorem Pu (l:List (Nat×Bt)):(JC l).m=true:=rfl
def FOK (P:Program) (k:Nat) (s:Bt):Prop:=okF P k∧∀args vc r,s args=some (vc,r)→vc→PCall P k args r
theorem BW {P:Program}:TabOK P (CC []):=⟨fun f args vc r h=>(by simp[CC,Ef] at h),fun _ _ _ _ _ _ _ h=>(by cases h),fun _ _ _ _ _ _ h=>(by cases h)⟩
theorem EC {P:Program} {k:Nat} {s:Bt} {l:List (Nat×Bt)} (h:FOK P k s) (hr:TabOK P (CC l)):TabOK P (CC ((k,s)::l)):=by
 refine⟨fun f args vc r hs hv=> ?_,fun _ _ _ _ _ _ _ h=>(by cases h),fun _ _ _ _ _ _ h=>(by cases h)⟩
 simp only[CC,Ef] at hs
 split at hs
 ·rename_i e;subst e;exact⟨h.1,h.2 args vc r hs hv⟩
 ·exact hr.f f args vc r hs hv
abbrev GB:=List AV→List AV→Option (Prop×AV×List (Nat×AV))
abbrev GC:=List AV→List AV→Option (Prop×Value)
def GD:List (Nat×GB)→Nat→List AV→List AV→Option (Prop×AV×List (Nat×AV))
 |[],_,_,_=>none
 |(k,s)::r,f,args,cs=>if k=f then s args cs else GD r f args cs
def GE:List (Nat×GC)→Nat→List AV→List AV→Option (Prop×Value)
 |[],_,_,_=>none
 |(k,s)::r,f,args,cs=>if k=f then s args cs else GE r f args cs
def E3 (l:List (Nat×Bt)) (le:List (Nat×GB)) (lp:List (Nat×GC)):Tab:=⟨Ef l,false,false,GD le,GE lp⟩
theorem Pv (l le lp):(E3 l le lp).f=Ef l:=rfl
theorem Pw (l le lp):(E3 l le lp).w=false:=rfl
theorem Px (l le lp):(E3 l le lp).m=false:=rfl
theorem Py (l le lp):(E3 l le lp).e=GD le:=rfl
theorem Pz (l le lp):(E3 l le lp).p=GE lp:=rfl
theorem Ot (l):(CC l).e=noE:=rfl
theorem PA (l):(JB l).e=noE:=rfl
theorem PB (l):(JC l).e=noE:=rfl
def EOK (P:Program) (k:Nat) (s:GB):Prop:=okF P k∧∀args cells vc r us n,s args cells=some (vc,r,us)→vc→Bo args=some n→I2 P k n args cells r us
def POK (P:Program) (k:Nat) (s:GC):Prop:=okF P k∧∀args cells vc v n,s args cells=some (vc,v)→vc→Bo args=some n→Hu P k n args cells v
theorem Ou {P:Program} {l:List (Nat×Bt)} {le:List (Nat×GB)} {lp:List (Nat×GC)} (h:TabOK P (CC l)) (he:∀x∈le,EOK P x.1 x.2) (hp:∀x∈lp,POK P x.1 x.2):TabOK P (E3 l le lp):=by
 refine⟨h.f,fun f args cells vc r us n hs hv hb=> ?_,fun f args cells vc v n hs hv hb=> ?_⟩
 ·simp only[E3] at hs
  induction le with
  |nil=>simp[GD] at hs
  |cons x le ih=>
   simp only[GD] at hs
   split at hs
   ·rename_i e;subst e;have:=he x (by simp);exact⟨this.1,this.2 _ _ _ _ _ _ hs hv hb⟩
   ·exact ih (fun y hy=>he y (by simp[hy])) hs
 ·simp only[E3] at hs
  induction lp with
  |nil=>simp[GE] at hs
  |cons x le ih=>
   simp only[GE] at hs
   split at hs
   ·rename_i e;subst e;have:=hp x (by simp);exact⟨this.1,this.2 _ _ _ _ _ hs hv hb⟩
   ·exact ih (fun y hy=>hp y (by simp[hy])) hs
mutual
theorem KC:∀(x y:AV),wk x y→A4 x=true→A4 y=true
 | .sl z f rows d,y,h,hr=>by
  cases y with
  |sl z' f' rows' d'=>simp[A4]
  |_=>simp only[wk] at h;cases h
 | .agg a,y,h,hr=>by
  cases y with
  |agg b=>simp only[wk] at h;simp only[A4] at hr⊢;exact FK a b h hr
  |_=>simp only[wk] at h;cases h
 | .tup a,y,h,hr=>by
  cases y with
  |tup b=>simp only[wk] at h;simp only[A4] at hr⊢;exact FK a b h hr
  |_=>simp only[wk] at h;cases h
 | .v x,y,h,hr=>by simp only[wk] at h;rw[←h];exact hr
 | .ro _ _,y,h,hr=>by simp only[wk] at h;rw[←h];exact hr
 | .clo _ _ _,y,h,hr=>by simp only[wk] at h;rw[←h];exact hr
 | .box _ _,y,h,hr=>by simp only[wk] at h;rw[←h];exact hr
 | .own _ _,y,h,hr=>by simp only[wk] at h;rw[←h];exact hr
 | .elem _ _ _ _ _,y,h,hr=>by simp only[wk] at h;rw[←h];exact hr
 | .gd _ _,y,h,hr=>by simp only[wk] at h;rw[←h];exact hr
 | .un,y,h,hr=>by simp only[wk] at h;rw[←h];exact hr
theorem FK:∀(xs ys:List AV),wkL xs ys→AH xs=true→AH ys=true
 |[],[],_,_=>rfl
 |x::xs,y::ys,h,hr=>by
  simp only[wkL] at h
  simp only[AH,Bool.and_eq_true] at hr⊢
  exact⟨KC x y h.1 hr.1,FK xs ys h.2 hr.2⟩
 |[],_::_,h,_=>by simp[wkL] at h
 |_::_,[],h,_=>by simp[wkL] at h
end
theorem PCall.arg {P:Program} {f:Nat} {args args':List AV} {r:AV} (hw:wkL args args') (h:PCall P f args' r):PCall P f args r:=
 fun σ vs hg hl hp hr=>h σ vs hg hl (FK _ _ hw hp) (ET _ _ _ hw hr)
theorem PCall.res {P:Program} {f:Nat} {args:List AV} {r r':AV} (hw:wk r r') (h:PCall P f args r):PCall P f args r':=
 fun σ vs hg hl hp hr=>(h σ vs hg hl hp hr).mono fun e w' ⟨v,h1,h2,h0,h3,h4⟩=>⟨v,h1,h2,h0,KC _ _ hw h3,DS _ _ _ hw h4⟩
theorem AZ {Q:AE→St→Prop} {e:AE} {s:St} (h:Q e s):Q e s:=h
theorem Az {Γ:Ctx} {c:AC} {Q:AE→St→Prop} {s:St} (h:awp Γ c Q s):awp Γ c Q s:=h
theorem Q4 {P:Program} {S:Tab} {nt hb:Nat}:(Ctx.fn P S nt hb).S=S:=rfl
theorem Q5 {P:Program} {S:Tab} {nt l:Nat}:(Ctx.rd P S nt l).S=S:=rfl
theorem Q6 {P:Program} {F:Fence} {S:Tab} {nt hb:Nat} {J:Int→Cf→Prop} {hnt:nt≤gs} {evo:∀{k:Int} {σ σ':Cf},J k σ→Evo σ σ'→J k σ'}:(Ctx.it P F S nt hb J hnt evo).S=S:=rfl
theorem PC {S:Tab} {rid i:Nat} {d:Option Nat} {post:List AOp} {e1:Env} {Q:AE→St→Prop} {rvs:List RV} {e:Env} {h:Hp} {c:Nat} {vc:Prop} {xs:List AV} {vc2:Prop} {e2:Env} {h2:Hp} (h1:BD e h rvs=some (vc,xs)) (hv:vc)
  (hx:AM S (c+1) (100*rid+(i+1)) post (AX d (one xs) e1) h=some (vc2,e2,h2)) (hv2:vc2) (hQ:Q .n ⟨e2,h2,c+1⟩):Bz rvs (B8 S rid i d post e1 Q) .n ⟨e,h,c⟩:=⟨vc,xs,h1,hv,vc2,e2,h2,hx,hv2,hQ⟩
theorem PD {S:Tab} {rid i:Nat} {d:Option Nat} {post:List AOp} {e1:Env} {Q:AE→St→Prop} {rvs:List RV} {e:Env} {h:Hp} {c:Nat} {vc:Prop} {xs:List AV} {vc2:Prop} {e2:Env} {h2:Hp} (h1:BD e h rvs=some (vc,xs)) (hv:vc)
  (hx:AM S (c+1) (100*rid+(i+1)) post (AX d (one xs) e1) h=some (vc2,e2,h2)) (hv2:vc2) (hQ:Q .n ⟨e2,h2,c+1⟩):Bz rvs (B8 S rid i d post e1 Q) .r ⟨e,h,c⟩:=⟨vc,xs,h1,hv,vc2,e2,h2,hx,hv2,hQ⟩
theorem Np {P:Program} {S:Tab} {nt hb:Nat} (hS:TabOK P S) (i:Nat) {rid:Nat} {ops post:List AOp} {d:Option Nat} {g:Option (Nat×Bool)} {k:AK} {Q:AE→St→Prop} {e e1:Env} {h h1:Hp} {c:Nat} {vc:Prop} {f:Nat} {args:List AV} {fn:Func} {ac:AC} {rvs:List RV} {ntf:Nat}
  (hf:P.funcs[f]? =some fn) (hcf:Bl P fn=some (ac,rvs)) (hnt:fn.ntmps=ntf) (hok:okF P f) (hyo:ops[i]? =some ⟨d,g,k⟩) (hpost:ops.drop (i+1)=post) (hex:AM S (c+1) (100*rid) (ops.take i) e h=some (vc,e1,h1)) (hvc:vc) (hg:Bv e1 g=some true)
  (hca:B7 e1 k=some (f,args)) (hn:args.length≤ntf) (hbody:∀hb,awp (Ctx.fn P S ntf hb) ac (Bz rvs (B8 S rid i d post e1 Q)) ⟨A1 0 args,h1,c+1⟩):awp (Ctx.fn P S nt hb) (.reg rid ops) Q ⟨e,h,c⟩:=by
 subst hpost
 exact KA (Ctx.fn_ok hS) i hf hcf hnt hok hyo hex hvc hg hca hn hbody
theorem FL {P:Program} {S:Tab} {nt hb:Nat} {J:Int→Cf→Prop} {hnt:nt≤gs} {evo:∀{k:Int} {σ σ':Cf},J k σ→Evo σ σ'→J k σ'} {l:Nat} {xs:List (List AV)}
  (hS:TabOK P S) (hR:Rng P Fence.wide l hb xs J) (i:Nat) {rid:Nat} {ops post:List AOp} {d:Option Nat} {g:Option (Nat×Bool)} {Q:AE→St→Prop} {e e1:Env} {h h1:Hp} {c:Nat} {vc:Prop} {x:Opd} {as:List Opd} {k:Nat} {args:List AV} {vt vf:Prop} {et ef:Env} {ht hf:Hp}
  (hyo:ops[i]? =some ⟨d,g,.cv x as⟩) (hpost:ops.drop (i+1)=post) (hex:AM S (c+1) (100*rid) (ops.take i) e h=some (vc,e1,h1)) (hvc:vc) (hg:Bv e1 g=some true) (hx:ung true (opv e1 x)= .clo (.yield l) [] [])
  (hgh:lk e gs=AY k) (hargs:as.map (fun x=>ung true (opv e1 x))=args) (hxs:xs[k]? =some args)
  (hxT:AM S (c+1) (100*rid+(i+1)) post (AX d (.v (.bool true)) ((gs,AY (k+1))::e1)) h1=some (vt,et,ht)) (hvT:vt) (hQT:Q .n ⟨et,ht,c+1⟩)
  (hxF:AM S (c+1) (100*rid+(i+1)) post (AX d (.v (.bool false)) ((gs,AY (-1))::e1)) h1=some (vf,ef,hf)) (hvF:vf) (hQF:Q .n ⟨ef,hf,c+1⟩):
  awp (Ctx.it P Fence.wide S nt hb J hnt evo) (.reg rid ops) Q ⟨e,h,c⟩:=by
 subst hpost
 refine LW hS hR i hyo rfl hex hvc hg hx hgh hargs hxs fun b=> ?_
 cases b with
 |true=>exact⟨vt,et,ht,hxT,hvT,hQT⟩
 |false=>exact⟨vf,ef,hf,hxF,hvF,hQF⟩
theorem JD {Γ:Ctx} (p:Prop) [Decidable p] {b:Bool} {cc:Opd} {x y:AC} {Q:AE→St→Prop} {e:Env} {h:Hp} {c:Nat} (hb:ung true (opv e cc)= .v (.bool b)) (hp:b=decide p) (ht:p→awp Γ x Q ⟨e,h,c⟩) (hf:¬p→awp Γ y Q ⟨e,h,c⟩):awp Γ (.cond cc x y) Q ⟨e,h,c⟩:=by
 subst hp
 exact Pk hb ht hf
theorem Ctx.it_ok {P:Program} {S:Tab} {nt hb:Nat} {J:Int→Cf→Prop} {hnt:nt≤gs} {evo:∀{k:Int} {σ σ':Cf},J k σ→Evo σ σ'→J k σ'} (h:TabOK P S):(Ctx.it P Fence.wide S nt hb J hnt evo).OK:=⟨h,.inl (Eq.refl _)⟩
abbrev Gd (Γ:Ctx) (l:Nat) (xs:List (List AV)):Prop:=∀(i:Nat) {rid:Nat} {ops post:List AOp} {d:Option Nat} {g:Option (Nat×Bool)} {Q:AE→St→Prop} {e e1:Env} {h h1:Hp} {c:Nat} {vc:Prop} {x:Opd} {as:List Opd} {k:Nat} {args:List AV} {vt vf:Prop} {et ef:Env} {ht hf:Hp}
  (_:ops[i]? =some ⟨d,g,.cv x as⟩) (_:ops.drop (i+1)=post) (_:AM Γ.S (c+1) (100*rid) (ops.take i) e h=some (vc,e1,h1)) (_:vc) (_:Bv e1 g=some true) (_:ung true (opv e1 x)= .clo (.yield l) [] [])
  (_:lk e gs=AY k) (_:as.map (fun x=>ung true (opv e1 x))=args) (_:xs[k]? =some args)
  (_:AM Γ.S (c+1) (100*rid+(i+1)) post (AX d (.v (.bool true)) ((gs,AY (k+1))::e1)) h1=some (vt,et,ht)) (_:vt) (_:Q .n ⟨et,ht,c+1⟩)
  (_:AM Γ.S (c+1) (100*rid+(i+1)) post (AX d (.v (.bool false)) ((gs,AY (-1))::e1)) h1=some (vf,ef,hf)) (_:vf) (_:Q .n ⟨ef,hf,c+1⟩),awp Γ (.reg rid ops) Q ⟨e,h,c⟩
theorem AA {Γ:Ctx} {b:AC} {Q:AE→St→Prop} {s:St} (h:awp Γ b Q s):DM Γ b Q .n s:=h
theorem L0 {X:Type} {e e':Env} {I:X→Hp×Nat} {Pre:X→Prop} {K:X→Nat} {j:Nat} {Q:AE→St→Prop} {h:Hp} {c:Nat} (x:X) (h1:Pre x) (h2:K x=j) (h3:Le ⟨e,(I x).1,(I x).2⟩ ⟨e,h,c⟩):Dg e I Pre K j Q .n ⟨e',h,c⟩:=⟨x,h1,h2,h3⟩
theorem AB {X:Type} {e e':Env} {I:X→Hp×Nat} {Pre:X→Prop} {K:X→Nat} {j i:Nat} {Q:AE→St→Prop} {h:Hp} {c:Nat} (hq:Q (.x i) ⟨e,h,c⟩):Dg e I Pre K j Q (.x i) ⟨e',h,c⟩:=hq
theorem AD {X:Type} {e e':Env} {I:X→Hp×Nat} {Pre:X→Prop} {K:X→Nat} {j:Nat} {Q:AE→St→Prop} {h:Hp} {c:Nat} (hq:Q .r ⟨e,h,c⟩):Dg e I Pre K j Q .r ⟨e',h,c⟩:=hq
theorem Le.of {e e':Env} {h h':Hp} {c c':Nat} (h1:leE e' e) (h2:leH h' h) (h3:c≤c'):Le ⟨e',h',c'⟩ ⟨e,h,c⟩:=⟨h1,h2,h3⟩
theorem Qn {n:Nat} {s:St} (h:lk s.env gs=AY n):itK n .n s:= .inl h
theorem Qo {n:Nat} {s:St} (h:lk s.env gs=AY n):itK n .r s:= .inl h
theorem JE {n:Nat} {s:St} (h:lk s.env gs=AY (-1)):itK n .r s:= .inr h
section
variable {Γ:Ctx}
def Cf.claim (σ:Cf) (n:Nm) (base:Option Addr):Cf:=
 {σ with ra:=fun m=>if m=n then(base,0) else σ.ra m,ln:=fun m=>if m=n then some 0 else σ.ln m,al:=fun m=>σ.al m∨m=n}
theorem Evo.claim {σ:Cf} {n:Nm} (hn:¬σ.al n) (base:Option Addr):Evo σ (σ.claim n base) where
 box m hm:=⟨.inl hm,rfl⟩
 arr m hm l hl:=by
  have:¬m=n:=by rintro rfl;exact hn hm
  simp only[Cf.claim,if_neg this] at hl⊢
  exact⟨l,hl,Nat.le_refl _,fun _=>trivial⟩
 fro b o h h':=⟨h,h'⟩
 out:=rfl
 sz:=Nat.le_refl _
 io:=SameO.refl _
theorem Rep.claim {σ:Cf} {n:Nm} {base:Option Addr}:Rep (σ.claim n base) (.own n 0) (.slice base 0 0):=by
 simp only[Rep]
 refine⟨.inr rfl,rfl,fun l hl=> ?_⟩
 simp only[Cf.claim,if_true,yE] at hl⊢
 subst hl
 exact⟨Nat.le_refl _,fun _=>trivial⟩
theorem HInv.claim {σ:Cf} {hp:Hp} (h:HInv σ hp) {n:Nm} (hn:¬σ.al n) (base:Option Addr) {z:Nat} (hz:0<z) (d:List AV):HInv (σ.claim n base) ((.a n,.sl z true [] d)::hp) where
 ln m:=by
  simp only[Cf.claim,lenOf,hl]
  by_cases hm:m=n
  ·subst hm;simp
  ·rw[if_neg hm,if_neg (by intro e;cases e;exact hm rfl)];exact h.ln m
 cel m j c hc:=by
  simp only[hl] at hc
  rw[if_neg (by intro e;cases e)] at hc
  have k:=h.cel m j c hc
  exact k.keep (Evo.claim hn base) k.2.1 rfl
 arr m sz live rows d' hc:=by
  simp only[hl] at hc
  by_cases hm:m=n
  ·subst hm
   simp at hc
   obtain⟨rfl,rfl,rfl,rfl⟩:=hc
   exact⟨.inr rfl,hz,by simp,.inl ⟨base,by simp[Cf.claim],rfl⟩⟩
  ·rw[if_neg (by intro e;cases e;exact hm rfl)] at hc
   exact(h.arr m sz live rows d' hc).keep (Evo.claim hn base) (by simp[Cf.claim,hm]) fun _ _ _ _ _ _ hM=>⟨hM,rfl⟩
 inj p q b hp' hq':=by
  have key:∀p b,Owns (σ.claim n base) ((.a n,.sl z true [] d)::hp) p b→Owns σ hp p b:=by
   rintro p b (⟨g1,g2,j,c,g3⟩|⟨g1,⟨sz,rows,d',g2⟩,o,cap,g3,g4⟩)
   ·simp only[hl] at g3
    rw[if_neg (by intro e;cases e)] at g3
    exact .inl ⟨g1,g2,j,c,g3⟩
   ·by_cases hm:p.2=n
    ·simp[Cf.claim,hm] at g3;omega
    ·simp only[hl] at g2
     rw[if_neg (by intro e;cases e;exact hm rfl)] at g2
     simp only[Cf.claim,if_neg hm] at g3
     exact .inr ⟨g1,⟨sz,rows,d',g2⟩,o,cap,g3,g4⟩
  exact h.inj p q b (key p b hp') (key q b hq')
 lt:=h.lt
 ou:=h.ou
 dis:=h.dis
theorem II {σ:Cf} {z:Nat} {d:List AV} {v:Value} (h:Rep σ (.sl z true [] d) v):∃base,v= .slice base 0 0:=by
 simp only[Rep] at h
 obtain⟨base,cap,h1,_,h3,_⟩:=h
 have:=h3 trivial
 simp at this
 subst this
 exact⟨base,h1⟩
theorem Kh (kn t z:Nat) (zs:List AV) {x:AC} {Q:AE→St→Prop} {e:Env} {h:Hp} {c z0:Nat} {d:List AV} (ht:t<Γ.nt) (hz:0<z) (he:lk e t= .sl z0 true [] d)
  (hQ:awp Γ x Q ⟨(t,.own (kn,c+1) 0)::e,(.a (kn,c+1),.sl z true [] zs)::h,c+1⟩):awp Γ x Q ⟨e,h,c⟩:=by
 intro code hc σ a hA
 have hr:=hA.1.t t
 rw[he] at hr
 obtain⟨base,hv⟩:=II hr
 have hn:¬σ.al (kn,c+1):=fun hm=>by have:=hA.2.1 _ hm;simp at this;omega
 have ev:=Evo.claim hn base
 refine wpIn_mono (hQ code hc (σ.claim (kn,c+1) base) a ⟨⟨hA.1.h.claim hn base hz zs,fun t'=> ?_,hA.1.sz,(hA.1.df.mono ev).un (.inr (I4 ht))⟩,fun m hm=> ?_,Γ.g hA.2.2 ev fun t' ht'=> ?_⟩) fun e a w k=>k.mono (Γ.ofE ev)
 ·simp only[lk]
  by_cases e:t=t'
  ·subst e
   rw[if_pos rfl,hv]
   exact Rep.claim
  ·rw[if_neg e];exact(hA.1.t t').mono ev
 ·rcases hm with hm|rfl
  ·have:=hA.2.1 m hm;simp at this⊢;omega
  ·simp
 ·right
  simp only[lk]
  rw[if_neg (by omega)]
theorem E4 (kn:Nat) (m:Nm) (j z:Nat) (zs:List AV) {x:AC} {Q:AE→St→Prop} {e:Env} {h:Hp} {c z0:Nat} {d:List AV} (hz:0<z) (he:hl h (.c m j)=some (.sl z0 true [] d))
  (hQ:awp Γ x Q ⟨e,(.c m j,.own (kn,c+1) 0)::(.a (kn,c+1),.sl z true [] zs)::h,c+1⟩):awp Γ x Q ⟨e,h,c⟩:=by
 intro code hc σ a hA
 obtain⟨k1,k2,cs,T,v,k3,k4,k5,k6⟩:=hA.1.h.cel m j _ he
 obtain⟨base,rfl⟩:=II k6
 have hn:¬σ.al (kn,c+1):=fun hm=>by have:=hA.2.1 _ hm;simp at this;omega
 have ev:=Evo.claim hn base
 have hI:=hA.1.h.claim hn base hz zs
 refine wpIn_mono (hQ code hc (σ.claim (kn,c+1) base) a ⟨⟨⟨fun n'=> ?_,fun n' j' c' hc'=> ?_,fun n' sz live rows d' hc'=> ?_,fun p q b hp hq=> ?_,hI.lt,hI.ou,hI.dis⟩,fun t'=>(hA.1.t t').mono ev,hA.1.sz,hA.1.df.mono ev⟩,fun m hm=> ?_,Γ.g hA.2.2 ev fun t' ht'=> .inr rfl⟩) fun e a w k=>k.mono (Γ.ofE ev)
 ·have:=hI.ln n'
  simpa only[lenOf,hl,if_neg (show¬Loc.c m j=Loc.a n' by intro e;cases e)] using this
 ·simp only[hl] at hc'
  by_cases e:Loc.c m j=Loc.c n' j'
  ·rw[if_pos e] at hc'
   cases e
   simp at hc'
   subst hc'
   exact⟨.inl k1,k2,cs,T,_,k3,k4,k5,Rep.claim⟩
  ·rw[if_neg e] at hc'
   exact hI.cel n' j' c' hc'
 ·simp only[hl,if_neg (show¬Loc.c m j=Loc.a n' by intro e;cases e)] at hc'
  exact hI.arr n' sz live rows d' hc'
 ·have key:∀p b,Owns (σ.claim (kn,c+1) base) ((.c m j,.own (kn,c+1) 0)::(.a (kn,c+1),.sl z true [] zs)::h) p b→Owns (σ.claim (kn,c+1) base) ((.a (kn,c+1),.sl z true [] zs)::h) p b:=by
   rintro p b (⟨g1,g2,j',c',g3⟩|⟨g1,⟨sz,rows,d',g2⟩,o,cap,g3,g4⟩)
   ·simp only[hl] at g3
    by_cases e:Loc.c m j=Loc.c p.2 j'
    ·cases e
     refine .inl ⟨g1,g2,j,.sl z0 true [] d, ?_⟩
     simp only[hl]
     rw[if_neg (by intro e;cases e)]
     exact he
    ·rw[if_neg e] at g3
     exact .inl ⟨g1,g2,j',c',g3⟩
   ·simp only[hl] at g2
    rw[if_neg (by intro e;cases e)] at g2
    exact .inr ⟨g1,⟨sz,rows,d',g2⟩,o,cap,g3,g4⟩
  exact hI.inj p q b (key p b hp) (key q b hq)
 ·rcases hm with hm|rfl
  ·have:=hA.2.1 _ hm;simp at this⊢;omega
  ·simp
end
end Go.Proofs.YtdabfcbelkjmgaaGreatDoor.Am
namespace Go.Proofs.YtdabfcbelkjmgaaGreatDoor
set_option linter.unusedSimpArgs false
set_option linter.unusedVariables false
attribute [go_sem] Am.AM Am.FC Am.FD Am.Ig Am.Cw Am.If Am.ht Am.hw Am.rdO Am.rdK Am.rdV Am.rdL Am.K9 Am.La Am.CT Am.Jx List.getD_cons_zero List.getD_cons_succ List.any_cons List.any_nil List.flatMap_cons List.flatMap_nil Am.Dt Am.Ql Am.Qm Am.Dw Am.exK Am.FX Am.KU Am.Eo Am.Gr Am.De Am.Pv Am.Pw Am.Px Am.Py Am.Pz Am.Ot Am.PA Am.PB Am.noE Am.noP Am.GD Am.GE Am.Bo Am.Cp Am.MF Am.O7 Am.O8 Am.Dv Am.Di Am.AG Am.EM Am.Qf Am.Fj Am.Jb Am.Ec Am.Gs Am.H9 Am.Hn Am.FY Am.Ho Am.FZ Am.Et Am.Gt Am.EN Am.Ia Am.Hq Am.Hr Am.Jc Am.DE Am.Gq Am.EL Am.FW Am.loB Am.asI Am.Gn Am.KT Am.KR Am.arB Am.A8 Am.mmL Am.mm2 Am.Ei Am.Gp Am.BU Am.cut Am.Cg Am.Eb Am.A5 Am.mkv Am.vr Am.Fl Am.res Am.BV Am.Fk Am.rvc Am.Ch Am.G0 Am.EK Am.A3 Am.ons Am.By Am.nob Am.Dd Am.Co Am.CA Am.A4 Am.AH Am.frz Am.AX Am.lk Am.hl Am.ung Am.opv Am.Bv Am.gb Am.AV.cells Am.AN Am.inR Am.A1 Am.MD Am.ME Am.Lu Am.Lv Am.I9 Am.IY Am.K8 Am.BD Am.one Am.wk Am.wkL Am.leE Am.leH Go.undef Am.gs Am.Q4 Am.Q5 Am.Q6 Am.Ef Am.Om Am.Oo Am.Po Am.Pp Am.Oq Am.Pq Am.Pr Am.Ps Am.Pu Am.Dh Am.Hl Am.Hm Am.Hk Am.Ja Am.KS Am.B7 List.take_succ_cons List.take_zero List.drop_succ_cons List.drop_zero List.length_map Option.map_some Option.map_none Option.getD_some Option.getD_none List.map_cons List.map_nil List.length_cons List.length_nil List.append_nil List.nil_append List.cons_append List.isEmpty_cons List.isEmpty_nil List.replicate_succ List.replicate_zero List.all_cons List.all_nil List.set_cons_zero List.set_cons_succ List.getElem?_cons_zero List.getElem?_cons_succ Array.toList_map true_or or_true or_false false_or Am.Loc.c.injEq Am.Loc.a.injEq Prod.mk.injEq and_true true_and and_false false_and if_true if_false ite_true ite_false cond_true cond_false Bool.and_true Bool.true_and Bool.and_false Bool.false_and Bool.not_true Bool.not_false Bool.or_true Bool.or_false Bool.true_or Bool.false_or Bool.cond_false_right Bool.cond_true_left beq_self_eq_true List.length_append Int.toNat_natCast Int.cast_ofNat_Int Nat.zero_add Nat.add_zero eq_self implies_true true_implies false_implies Bool.false_eq_true Bool.true_eq_false decide_true decide_false not_true_eq_false not_false_eq_true
end Go.Proofs.YtdabfcbelkjmgaaGreatDoor
namespace Go.Proofs.YtdabfcbelkjmgaaGreatDoor.Am
open Go
section
variable {Γ:Ctx}
theorem Ak (hΓ:Γ.OK) {rid:Nat} {ops:List AOp} {b:AC} {Q:AE→St→Prop} {e e':Env} {h h':Hp} {c:Nat} {vc:Prop} (hex:AM Γ.S (c+1) (100*rid) ops e h=some (vc,e',h')) (_:True) (hvc:vc)
  (hQ:awp Γ b Q ⟨e',h',c+1⟩):awp Γ (.seq (.reg rid ops) b) Q ⟨e,h,c⟩:=Pj hΓ hex hvc hQ
theorem AF (hΓ:Γ.OK) {rid:Nat} {ops:List AOp} {Q:AE→St→Prop} {e e':Env} {h h':Hp} {c:Nat} {vc:Prop} (hex:AM Γ.S (c+1) (100*rid) ops e h=some (vc,e',h')) (_:True) (hvc:vc)
  (hQ:Q .n ⟨e',h',c+1⟩):awp Γ (.reg rid ops) Q ⟨e,h,c⟩:=Qj hΓ hex hvc hQ
end
theorem Al (_:True) {S:Tab} {rid i:Nat} {d:Option Nat} {post:List AOp} {e1:Env} {Q:AE→St→Prop} {rvs:List RV} {e:Env} {h:Hp} {c:Nat} {vc:Prop} {xs:List AV} {vc2:Prop} {e2:Env} {h2:Hp} (h1:BD e h rvs=some (vc,xs))
  (hx:AM S (c+1) (100*rid+(i+1)) post (AX d (one xs) e1) h=some (vc2,e2,h2)) (hv:vc) (hv2:vc2) (hQ:Q .n ⟨e2,h2,c+1⟩):Bz rvs (B8 S rid i d post e1 Q) .n ⟨e,h,c⟩:=PC h1 hv hx hv2 hQ
theorem An (_:True) {S:Tab} {rid i:Nat} {d:Option Nat} {post:List AOp} {e1:Env} {Q:AE→St→Prop} {rvs:List RV} {e:Env} {h:Hp} {c:Nat} {vc:Prop} {xs:List AV} {vc2:Prop} {e2:Env} {h2:Hp} (h1:BD e h rvs=some (vc,xs))
  (hx:AM S (c+1) (100*rid+(i+1)) post (AX d (one xs) e1) h=some (vc2,e2,h2)) (hv:vc) (hv2:vc2) (hQ:Q .n ⟨e2,h2,c+1⟩):Bz rvs (B8 S rid i d post e1 Q) .r ⟨e,h,c⟩:=PD h1 hv hx hv2 hQ
end Go.Proofs.YtdabfcbelkjmgaaGreatDoor.Am
