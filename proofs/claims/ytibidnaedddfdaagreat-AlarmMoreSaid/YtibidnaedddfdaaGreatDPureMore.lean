import Derived.Test.YtibidnaedddfdaaGreatDPureSight
import Derived.Test.YtibidnaedddfdaaGreatDInsert
namespace Go.Proofs.YtibidnaedddfdaaGreat
set_option linter.all false
open Go.RowKit
def NT {N:Nat}(o:18446744073709551616<N) {b:AU}(p:Mw N b) (i:b.D.length≤6) {g:List CW}(q:Pw g) (j:g.length≤100) (sure:List Bool) {h:Cf}(s:bV b h 0) {d:Int}{t:Fk}(h0:¬d<0) (m:ix b.Ac d=some t) (a:List Cr) (u:∀c∈a,Ke c) (k:a.length≤100) (l:a≠[]) (n:Nat) (w:n≤24):
  Fb N b d h a g sure (n:Int)=some ⟨Jr (λc=>Kn N b g sure c t n 0 h) (-1) a,false⟩:=by
 have v:=Y0 m
 have x:a.length≠0:=λe=>l (mS e)
 unfold Fb HU
 rw[jD h0,jD (show ¬(b.Ac.length:Int)≤d by omega)]
 simp only[Bool.or_self,iO,m,iM]
 rw[jD (show ¬(a.length:Int)=0 by omega),iO,show min (n:Int) 24=(n:Int) by omega]
 exact Xk o p i q j sure t s a u k n (by omega)
def Pp (n:Int) (a l:Int):Prop:=(a= -1∧(l= -1∨l=n))∨(0≤a∧a<n∧l=a)
def Pp.comb {n a l x y:Int}(b:0≤n) (h:Pp n a l) (k:Pp n x y):Pp n (comb a x) (comb l y):=by
 unfold Pp Go.Proofs.YtibidnaedddfdaaGreat.comb at*
 (repeat' split)<;>omega
def Sh {n:Int}(b:0≤n) {f i:Cr→Int}(h:∀c,Pp n (f c) (i c)):∀(l:List Cr) (a d:Int),Pp n a d→Pp n (Jr f a l) (Jr i d l)
 |[],a,d,k=>k
 |c::l,a,d,k=>Sh b h l _ _ (k.comb b (h c))
def YI (N:Nat) (b:AU) (a:List CW) (sure:List Bool) (c:Cr) (t:Fk) (n:Nat) (h:Cf):Pp n (Kn N b a sure c t n 0 h) (Kn N b a sure c t (n+1) 0 h):=by
 have d:=TT N b a sure c t n (n+1) 0 h (Nat.le_succ _)
 have g:=M7 N b a sure c t (n+1) 0 h
 have i:=M7 N b a sure c t n 0 h
 unfold Pp
 split at d<;>omega
def Zt {N:Nat}(o:1000<N) (b:AU) (c:List Cr) (a:List CW):∃v,G0 N b c a=some v∧(v=true→b.D.length≤6∧b.F.length≤6∧c.length≤3∧a.length≤6∧∀x∈a,x.Ba.length≤6∧x.Bb.length≤6∧x.Au.length≤6):=by
 unfold G0
 cases l:(((decide (6<(b.D.length:Int))||decide (6<(b.F.length:Int)))||decide (3<(c.length:Int)))||decide (6<(a.length:Int)))
 ·simp only[jP,jK] at l
  rw[iO]
  rcases Fl a.length (Dx N a (FO N)) (FO N) (λi=>∀x,a[i]? =some x→x.Ba.length≤6∧x.Bb.length≤6∧x.Au.length≤6) (λn k d=>by
   simp only[Dx];rw[FY d];rfl) (λn k d=>by
   simp only[Dx]
   rw[FX d,iN,Bv d]
   simp only[iM,E7,JE,BV (show k<4611686018427387904 by omega)]
   cases m:((((decide (6<((a[k]).Ba.length:Int))||decide (6<((a[k]).Bb.length:Int)))||decide (6<((a[k]).Au.length:Int)))||decide (6<((a[k]).Bn.length:Int)))||decide (8<((a[k]).Ai.length:Int)))
   ·simp only[jP,jK] at m
    refine .inr ⟨λx g=>?_,rfl⟩
    rw[jE d] at g
    cases g
    omega
   ·exact .inl rfl) N 0 (by omega) (iU _) with h|⟨h1,h2⟩
  ·exact⟨false,h,λh=>by cases h⟩
  ·refine⟨true,h2,λ_=>⟨by omega,by omega,by omega,by omega,λx g=>?_⟩⟩
   obtain⟨i,j⟩:=kJ.1 g
   exact h1 i (iU _) (jF.1 j).1 x j
 ·exact⟨false,rfl,λh=>by cases h⟩
def X6 {N:Nat}(l:9007199254740992<N) (b:AU) (m:b.D.length≤4398046511104) (a:List Cr) (d:a.length≤4398046511104):∃v,Gc N b a=some v∧(v=true→∀c∈a,Ke c):=by
 unfold Gc
 rcases Fl a.length (Dh N b a (E3 N)) (E3 N) (λi=>∀c,a[i]? =some c→Ke c) (λn k g=>by
  simp only[Dh];rw[FY g];rfl) (λn k g=>by
  simp only[Dh]
  obtain⟨v,o,p⟩:=U2 l b m a[k]
  rw[FX g,iN,Bv g,iM,o,iM,BV (by omega)]
  cases v
  ·exact .inl rfl
  ·refine .inr ⟨λc d=>?_,rfl⟩
   rw[jE g] at d
   cases d
   exact p rfl) N 0 (by omega) (iU _) with h|⟨h1,h2⟩
 ·exact⟨false,h,λh=>by cases h⟩
 ·refine⟨true,h2,λ_ c d=>?_⟩
  obtain⟨i,j⟩:=kJ.1 d
  exact h1 i (iU _) (jF.1 j).1 c j
def Xu {N:Nat}(o:18446744073709551616<N) (J:GG N=some true) (b:AU) (i:Int) (h:Cf) (d:List Cr) (g:List CW) (ahead:Int) (K:b.D.length≤4398046511104) (M:d.length≤4398046511104) (aa:h.S.length≤4398046511104) (Q:∀x∈g,∀t∈x.Au,AD t.As):FP N b i h d g ahead=some true:=by
 obtain⟨v1,e1,k1⟩:=Zt (N:=N) (by omega) b d g
 obtain⟨v2,e2,k2⟩:=X6 (N:=N) (by omega) b K d M
 unfold FP
 rw[J,iM,e1,iM,e2,iM]
 cases X:((((!v1|| !v2)||decide (ahead<0))||decide (8<ahead))||decide ((d.length:Int)<2)) with
 |true=>rfl
 |false=>
  simp only[jP,kY,jK] at X
  obtain⟨⟨⟨⟨h1,h2⟩,h3⟩,h4⟩,Y⟩:=X
  obtain⟨B,f2,f3,f4,U⟩:=k1 h1
  have j:=k2 h2
  rw[iO]
  obtain⟨v,Z,kv⟩:=R5 o b
  rw[Z,iM,iM]
  cases v with
  |false=>rfl
  |true=>
   obtain⟨q,_⟩:=aR o Z
   obtain⟨v,e3,k3⟩:=Uv (N:=N) (by omega) b q.head h (by omega)
   simp only[jV,iO]
   rw[e3,iM,iM]
   cases v with
   |false=>rfl
   |true=>
    have p:=k3.1 rfl
    have ab:=p.hour
    have C:bV b h 0:=⟨by omega,p.vol,p.vols,p.que,⟨p.lks,p.kn⟩,by omega⟩
    have G:Pw g:=λx H=>⟨(U x H).1,(U x H).2.1,(U x H).2.2,Q x H⟩
    obtain⟨n,rfl⟩:∃n:Nat,ahead=n:=⟨ahead.toNat,by omega⟩
    have hn:n≤8:=by omega
    have t1:cN d 1=some (d.take 1):=by unfold cN;rw[iR (by omega)];rfl
    have t2:cO d 1=some (d.drop 1):=by unfold cO;rw[iR (by omega)];rfl
    have s:d≠[]:=λe=>by rw[e] at Y;simp at Y
    have V:d.take 1≠[]:=List.ne_nil_of_length_pos (by rw[kH];omega)
    have W:d.drop 1≠[]:=List.ne_nil_of_length_pos (by rw[kK];omega)
    simp only[jV,iO]
    rw[show Kj (b.F.length:Int) (b.F.length:Int) 1=true by simp [Kj];omega]
    simp only[chk,iN]
    rw[t1,t2,DE (by omega) (by omega)]
    simp only[iM]
    generalize List.replicate ((b.F.length:Int):Int).toNat false=sure
    have en:((n:Int)+1)=((n+1:Nat):Int):=rfl
    rw[en]
    by_cases u:0≤i∧i<b.Ac.length
    ·obtain⟨t,I,_⟩:=Us (l:=b.Ac) u.1 u.2
     have tk:∀c∈d.take 1,Ke c:=λc k=>j c (List.mem_of_mem_take k)
     have td:∀c∈d.drop 1,Ke c:=λc k=>j c (nA k)
     rw[NT o q B G (by omega) sure C (by omega) I d j (by omega) s n (by omega),iM,NT o q B G (by omega) sure C (by omega) I _ tk (by rw[kH];omega) V n (by omega),iM,NT o q B G (by omega) sure C (by omega) I _ td (by rw[kK];omega) W n (by omega),iM,NT o q B G (by omega) sure C (by omega) I d j (by omega) s (n+1) (by omega),iM]
     have lo:∀c, -1≤Kn N b g sure c t n 0 h:=λc=>by have:=M7 N b g sure c t n 0 h;omega
     have w:=Sh (show(0:Int)≤n by omega) (λc=>YI N b g sure c t n h) d (-1) (-1) (.inl ⟨rfl,.inl rfl⟩)
     have y:Jr (λc=>Kn N b g sure c t n 0 h) (-1) d=comb (Jr (λc=>Kn N b g sure c t n 0 h) (-1) (d.take 1)) (Jr (λc=>Kn N b g sure c t n 0 h) (-1) (d.drop 1)):=by
      rw[←NA _ lo _ _ (O3 _ _ _ (kG _))]
      conv=>lhs;rw[←mU 1 d]
      unfold Jr
      rw[List.foldl_append]
     have ac:=O3 (λc=>Kn N b g sure c t n 0 h) (d.take 1) (-1) (kG _)
     have ad:=O3 (λc=>Kn N b g sure c t n 0 h) (d.drop 1) (-1) (kG _)
     simp only[Dq]
     generalize Jr (λc=>Kn N b g sure c t n 0 h) (-1) d=A at*
     generalize Jr (λc=>Kn N b g sure c t (n+1) 0 h) (-1) d=L at*
     generalize Jr (λc=>Kn N b g sure c t n 0 h) (-1) (d.take 1)=O at*
     generalize Jr (λc=>Kn N b g sure c t n 0 h) (-1) (d.drop 1)=R at*
     have z:∀m:Int,A=m→(((true&&decide (A=m))&&((decide (A<0)&&(decide (L<0)||decide (L=(n:Int))))||(decide (0≤A)&&decide (L=A))))&&decide (A<max (n:Int) 1))=true:=by
      intro m hm
      simp only[lC,iQ,jC,jG]
      unfold Pp at w
      omega
     by_cases k:0≤R∧(O<0∨R<O)
     ·rw[show (decide (0≤R)&&(decide (O<0)||decide (R<O)))=true by simp only[iQ,jC,jG];exact k,iN]
      exact jA some (z R (by rw[y];unfold comb;rw[iR k]))
     ·rw[show (decide (0≤R)&&(decide (O<0)||decide (R<O)))=false by rw[Bool.eq_false_iff];simp only[ne_eq,iQ,jC,jG];exact k,iO]
      exact jA some (z O (by rw[y];unfold comb;rw[iP k]))
    ·have hs:∀(cs:List Cr) (a:Int),Fb N b i h cs g sure a=some ⟨-1,false⟩:=λcs a=>by
      unfold Fb
      rw[show (decide (i<0)||decide ((b.Ac.length:Int)≤i))=true by simp only[jC,jG];omega,iN]
     simp only[hs,iM,Dq]
     rw[show max (n:Int) 1=max (n:Int) 1 from rfl,iW (show(-1:Int)<max (n:Int) 1 by omega)]
     rfl
def Xi:GG BN=some true:=by decide +kernel
def TN (b:AU) (c:Int) (h:Cf) (a:List Cr) (d:List CW) (ahead:Int) (g:b.D.length≤4398046511104) (i:a.length≤4398046511104) (j:h.S.length≤4398046511104) (k:∀x∈d,∀t∈x.Au,AD t.As):FP BN b c h a d ahead=some true:=Xu (by unfold BN;omega) Xi b c h a d ahead g i j k
end Go.Proofs.YtibidnaedddfdaaGreat
