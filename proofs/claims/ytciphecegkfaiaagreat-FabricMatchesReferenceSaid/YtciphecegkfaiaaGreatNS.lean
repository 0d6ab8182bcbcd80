import Derived.Test.YtciphecegkfaiaaGreatF9
import Derived.Test.YtciphecegkfaiaaGreatR6
import Derived.Test.YtciphecegkfaiaaGreatF4
set_option linter.unusedSimpArgs false
set_option linter.unusedVariables false
namespace Go.Proofs.YtciphecegkfaiaaGreat.Am
section
open Go
attribute [local irreducible] As Cn B6 BK CA BJ Bv Cl Cv Dx
set_option maxRecDepth 100000
set_option maxHeartbeats 8000000
attribute [local go_sem] UO UQ
def EM(N:Nat):Option Bool:=(H8 N).bind λr1=>(Ex N r1 1).bind λ(r3,r4)=>(Ex N r3 2).bind λ(r6,r7)=>(Ex N r6 2).bind λ(r9,gx)=>(AA r1 0).bind λ(x12,x13,x14,x15,x16,x17)=>(Gk N r3 x12 x13 x14 x15 x16 x17).bind λ(an,gw)=>(Gk N r1 x12 x13 x14 x15 x16 x17).bind λ(ip,gu)=>(Fi N r1 7).bind λ((gt,gj,gi,gh,gf,gc),fq)=>(Fi N r1 5).bind λ((ij,ig,ie,ic,g9,g8),fp)=>(Gt N r1).bind λ(am,fo)=>(FH N am).bind λ(aw,fj)=>(FY N r1 1 0).bind λ(r47,fh)=>gd ((am++[120]).length<=140737488355328)<|(FH N (am++[120])).bind λ(gz,fg)=>bif (((((((((((decide (r4≠0))||(decide (r7≠0)))||(decide (gx≠120)))||(decide (gw≠0)))||(decide (gu≠120)))||(!fq))||fp)||(decide (fo≠0)))||(decide (fj≠0)))||(decide (fh≠0)))||(decide (fg≠120)))||(decide ((r47.length:Int)≠4))then(some false)else((Be N r1).bind λfb=>(A6 N 0 0).bind λ(ez,eh)=>(A6 N 4 0).bind λ(d9,r59)=>(A6 N 4 4).bind λ(r61,d8)=>(A6 N 0 4).bind λ(d7,d6)=>(A6 N 8 0).bind λ(r67,d5)=>(A6 N 12 0).bind λ(dz,dw)=>(A6 N 12 4).bind λ(du,dt)=>(A6 N 8 4).bind λ(dq,dp)=>(AU N fb [(1,(-1),((ez,eh),(d9,r59)),0,2),(1,3,((r61,d8),(d7,d6)),0,2),(2,(-1),((r67,d5),(dz,dw)),0,2),(2,3,((du,dt),(dq,dp)),0,2)]).bind λak=>(Ck N r1).bind λdm=>(BA N dm [(1,(-1)),(2,(-1)),(3,1),(3,2)]).bind λav=>gd (av=true->((E4 Dv N r1).isSome=true))<|gd (av=true)<|(Ce N ((E4 Dv N r1).getD []) [[1,2,3],[7]]).bind λaj=>(C3 Dv N r1).bind λdl=>(Ds N dl [7]).bind λau=>gd (au=true->((C3 Dv N r3).isSome=true))<|gd (au=true)<|(Ds N ((C3 Dv N r3).getD []) [7]).bind λaq=>gd (aq=true->((C3 Dv N r6).isSome=true))<|gd (aq=true)<|(Ds N ((C3 Dv N r6).getD []) [3,7]).bind λai=>gd (((ak&&aj)&&ai)=true->((AD N an r1).isSome=true))<|gd ((((ak&&aj)&&ai)&&((AD N an r1).getD false))=true->((AD N aw r1).isSome=true))<|gd (((((ak&&aj)&&ai)&&((AD N an r1).getD false))&&((AD N aw r1).getD false))=true)<|(AA r1 3).bind λ(x95,x96,x97,x98,x99,x100)=>(BZ N gt gj gi gh gf gc x95 x96 x97 x98 x99 x100).bind λaa=>gd (aa=true->((A7 N r1).isSome=true))<|gd ((aa&&(decide ((A7 N r1).getD 0=256)))=true->((Br N r1).isSome=true))<|gd (((aa&&(decide ((A7 N r1).getD 0=256)))&&((Br N r1).getD false))=true)<|(Br N [(0,0,0,[],0,0)]).bind λr104=>some (!r104))
@[go_sem] def s11(N:Nat):Spec:=p0<|pE<|pF (EM N) false λr=>.b r
theorem ZF(N:Nat):AZ Tryz.prog 11 (s11 N):=by
 refine Ax x11.ok<|Ai<|Ay λr h=>wx x11 (Ac (Abw N)<|Ac (Zz N)<|Ac (Zy N)<|Ac (Zv N)<|Ac (oP N)<|Ac (oQ N)<|Ac (oN N)<|Ac (Z3 N)<|Ac (oL N)<|Ac (oI N)<|Ac (Z4 N)<|Ac (oJ N)<|Ac (Tk N)<|Ac (oK N)<|Ac (Tj N)<|Ac (Zt N)<|Ac (Zs N)<|Ac (Zn N)<|Ac (oM N)<|Ac (JI N)<|An) λ_ hS F=>?_
 dsimp only[x11,Al,DE];unfold EM at h;obtain⟨r1,i7,⟨r3,r4⟩,i6,h⟩:=un h;obtain⟨⟨r6,r7⟩,iz,h⟩:=un h;obtain⟨⟨r9,gx⟩,dg,h⟩:=un h;obtain⟨⟨x12,x13,x14,x15,x16,x17⟩,dh,h⟩:=un h;obtain⟨i8,F⟩:=Ma 0 Ak dh (fc dg (fc iz (fc i6 (fc i7 F))));obtain⟨⟨an,gw⟩,de,h⟩:=un h;obtain⟨⟨ip,gu⟩,db,h⟩:=un h;obtain⟨⟨⟨gt,gj,gi,gh,gf,gc⟩,fq⟩,cz,h⟩:=un h;obtain⟨⟨⟨ij,ig,ie,ic,g9,g8⟩,fp⟩,cy,h⟩:=un h;obtain⟨⟨am,fo⟩,cu,h⟩:=un h;obtain⟨⟨aw,fj⟩,cr,h⟩:=un h;obtain⟨⟨r47,fh⟩,cq,h⟩:=un h;obtain⟨je,⟨gz,fg⟩,co,h⟩:=un h;replace F:=fc co (fc cq (fc cr (fc cu (fc cy (fc cz (fc db (fc de F)))))));refine Ap hS F h (λ_ h=>?_) (λ_ h=>?_)
 ·exact Af hS F h
 ·obtain⟨fb,ce,⟨ez,eh⟩,b9,h⟩:=un h;obtain⟨⟨d9,r59⟩,bz,h⟩:=un h;obtain⟨⟨r61,d8⟩,bw,h⟩:=un h;obtain⟨⟨d7,d6⟩,bv,h⟩:=un h;obtain⟨⟨r67,d5⟩,bu,h⟩:=un h;obtain⟨⟨dz,dw⟩,br,h⟩:=un h;obtain⟨⟨du,dt⟩,bq,h⟩:=un h;obtain⟨⟨dq,dp⟩,bp,h⟩:=un h;obtain⟨ak,bo,dm,bm,av,bj,jd,iv,aj,bi,dl,bh,au,bg,jc,ir,aq,be,jb,iq,ai,bb,ja,i9,az,⟨x95,x96,x97,x98,x99,x100⟩,ah,h⟩:=un h;obtain⟨gy,F⟩:=Ma 3 Ak ah (fc az (fc bb (fc iq (fc be (fc ir (fc bg (fc bh (fc bi (fc iv (fc bj (fc bm (fc bo (fc bp (fc bq (fc br (fc bu (fc bv (fc bw (fc bz (fc b9 (fc ce F)))))))))))))))))))));obtain⟨aa,af,iy,iw,ay,r104,ae,h⟩:=un h;exact Af hS (fc ae (fc ay (fc af F))) h
end
section
variable{E:Type}(le:E->E->Bool)
def IP(x:E):List E->List E|[]=>[x]|y::r=>bif le x y then x::y::r else y::IP x r
def OC:List E->List E|[]=>[]|x::r=>IP le x (OC r)
theorem OD(x:E):∀l:List E,(IP le x l).Perm (x::l)
 |[]=>.refl _
 |y::r=>by
  unfold IP;cases le x y with
  |true=>exact .refl _
  |false=>exact((OD x r).cons y).trans (List.Perm.swap x y r)
theorem Jb:∀l:List E,(OC le l).Perm l
 |[]=>.refl _
 |x::r=>(OD le x _).trans ((Jb r).cons x)
variable{le}(tr:∀a b c,le a b=true->le b c=true->le a c=true)(tot:∀a b,(le a b||le b a)=true)
include tr tot
theorem Wu(x:E):∀l:List E,l.Pairwise (λa b=>le a b=true)->(IP le x l).Pairwise λa b=>le a b=true
 |[],_=>by simp[IP]
 |y::r,h=>by
  unfold IP;rw[yI]at h;cases hc:le x y with
  |true=>
   rw[Cg,yI,yI];refine⟨λz hz=>?_,h⟩;rcases lJ.1 hz with rfl|hz
   ·exact hc
   ·exact tr _ _ _ hc (h.1 z hz)
  |false=>
   rw[tN,yI];refine⟨λz hz=>?_,Wu x r h.2⟩;rcases lJ.1 ((OD le x r).mem_iff.1 hz)with rfl|hz
   ·have:=tot z y;rw[hc,Bool.false_or]at this;exact this
   ·exact h.1 z hz
theorem NH:∀l:List E,(OC le l).Pairwise λa b=>le a b=true
 |[]=>List.Pairwise.nil
 |x::r=>Wu tr tot x _ (NH r)
theorem qI{l:List E}(anti:∀a b,a∈l->b∈l->le a b=true->le b a=true->a=b):l.mergeSort le=OC le l:=List.Perm.eq_of_pairwise (λa b ha hb=>anti a b ((TR l le).mem_iff.1 ha) ((Jb le l).mem_iff.1 hb)) (List.pairwise_mergeSort tr tot l) (NH tr tot l) ((TR l le).trans (Jb le l).symm)
end
def OR(x y:MC):Bool:= !decide (y.1<x.1\/y.1=x.1/\y.2.1<x.2.1)
def HI(x y:Int×Int):Bool:= !decide (y.1<x.1\/y.1=x.1/\y.2<x.2)
theorem OE{x y:MC}:OR x y=true↔x.1<y.1\/x.1=y.1/\x.2.1<=y.2.1:=by unfold OR;rw[zT,eS];omega
theorem Qj{x y:Int×Int}:HI x y=true↔x.1<y.1\/x.1=y.1/\x.2<=y.2:=by unfold HI;rw[zT,eS];omega
theorem fG(a b c:MC)(h1:OR a b=true)(h2:OR b c=true):OR a c=true:=by rw[OE]at*;omega
theorem Sx(a b c:Int×Int)(h1:HI a b=true)(h2:HI b c=true):HI a c=true:=by rw[Qj]at*;omega
theorem Yv(a b:MC):(OR a b||OR b a)=true:=by rw[tV,OE,OE];omega
theorem Qk(a b:Int×Int):(HI a b||HI b a)=true:=by rw[tV,Qj,Qj];omega
theorem Td{l:List MC}(h:(l.map λc=>(c.1,c.2.1)).Nodup){a b:MC}(ha:a∈l)(hb:b∈l)(e1:a.1=b.1)(e2:a.2.1=b.2.1):a=b:=by
 induction l with
 |nil=>cases ha
 |cons x r ih=>
  rw[eZ,To]at h;rcases lJ.1 ha with e|ka<;>rcases lJ.1 hb with f|kb
  ·rw[e,f]
  ·exact absurd (tI.2 ⟨b,kb,by rw[<-e,e1,e2]⟩) h.1
  ·exact absurd (tI.2 ⟨a,ka,by rw[<-f,e1,e2]⟩) h.1
  ·exact ih h.2 ka kb
theorem Yw{l:List MC}(h:(l.map λc=>(c.1,c.2.1)).Nodup):PI l=OC OR l:=qI fG Yv λa b ha hb h1 h2=>Td h ha hb (by rw[OE]at h1 h2;omega) (by rw[OE]at h1 h2;omega)
theorem Yx(l:List (Int×Int)):OJ l=OC HI l:=qI Sx Qk λa b ha hb h1 h2=>by rw[Qj]at h1 h2;exact Rl (by omega) (by omega)
theorem Mx{E J:Type}{o:Option E}{f g:E->Option J}(h:∀a,f a=g a):o.bind f=o.bind g:=by rw[funext h]
theorem ZU{E:Type}{p:Prop}[Decidable p]{k k':Option E}(h:p->k=k'):gd p k=gd p k':=by
 unfold gd;split
 ·rename_i c;exact h c
 ·rfl
theorem Xj:Di=λN f=>
  (Dw N f N 0 []).bind λl64=>
  gd (f.length<=1000000000)<|(CF N (B1 f) l64).bind λl116=>
  gd ((l116.length:Int)<4611686018427387904)<|gd ((l116.map λc=>(c.1,c.2.1)).Nodup)<|some (OC OR l116):=by
 funext N f;exact Mx λ_=>ZU λ_=>Mx λl=>ZU λ_=>ZU λh=>by rw[Yw h]
theorem mQ:OJ=OC HI:=funext Yx
set_option maxRecDepth 100000 in
theorem Wv:EM 2000=some true:=by unfold EM Be Ck Dv;rw[Xj,mQ];decide+kernel
