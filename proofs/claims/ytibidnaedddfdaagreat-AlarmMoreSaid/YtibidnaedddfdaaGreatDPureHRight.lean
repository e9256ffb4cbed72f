import Derived.Test.YtibidnaedddfdaaGreatDPureSlope
namespace Go.Proofs.YtibidnaedddfdaaGreat
set_option linter.all false
open Go.RowKit
def IA (s:AH):Prop:=0≤s.B∧s.B≤s.A∧s.A≤1125899906842624
structure N4 (P:Nat) (t:Int) (q:List B9):Prop where
 srt:XY q
 el:∀e∈q,IA e.M∧0<e.M.A∧t≤e.X∧0≤e.E∧e.E<P
structure bQ (b:AU) (h:Cf):Prop where
 hour:0≤h.K∧h.K≤16777216
 vol:h.M.length=b.D.length
 lks:h.F.length=b.F.length
 vols:∀v∈h.M,IA v
 que:N4 b.D.length h.K h.S
 kn:∀(k:Nat) l x,b.F[k]? =some l→h.F[k]? =some x→Pv l x
def cK (s:AH):Bool:=decide (s.B≤s.A)&&(decide (0≤s.B)&&decide (s.A≤1125899906842624))
def Qt {s:AH}:cK s=true↔IA s:=by
 unfold cK IA
 simp only[iQ,jG]
 omega
def nb {α}(y z:Bool) (A B:Option α):(cond (!y) (some true) (some (!z))).bind (λb=>cond b A B)=cond (y&&z) B A:=by cases y<;>cases z<;>rfl
def Vm (N:Nat) (l:A7) (k:BA):∃v,GT N l k=some v∧(v=true↔Pv l k):=by
 unfold GT
 simp only[EO,N6,H3,E2,H2,iM,SU,E7,JE]
 have a:∀n m:Int,(decide (k.R.B=n)&&decide (k.R.A=m))=true↔k.R=⟨n,m⟩:=λn m=>by
  simp only[iQ,jG]
  cases k.R
  simp
 cases c:(!decide (k.P.B≤k.P.A)|| !(decide (0≤k.P.B)&&decide (k.P.A≤l.Q))|| !(decide (0≤k.T)&&decide (k.T≤l.Q)))
 ·simp only[jP,kY,iQ,jG] at c
  rw[iO]
  by_cases b:l.C=5∨l.C=3
  ·rw[show (decide (l.C≠5)&&decide (l.C≠3))=false by rcases b with h|h<;>simp [h],iO]
   refine⟨_,rfl,?_⟩
   rw[jC,jC,a,a,a]
   refine⟨λh=>⟨by omega,by omega,?_⟩,λh=>?_⟩
   ·rcases h with (h|h)|h
    ·exact .inl h
    ·exact .inr ⟨b,.inl h⟩
    ·exact .inr ⟨b,.inr h⟩
   ·rcases h.opn with h|⟨_,h|h⟩
    ·exact .inl (.inl h)
    ·exact .inl (.inr h)
    ·exact .inr h
  ·rw[show (decide (l.C≠5)&&decide (l.C≠3))=true by simp;omega,iN]
   refine⟨_,rfl,?_⟩
   rw[a]
   exact⟨λh=>⟨by omega,by omega,.inl h⟩,λh=>h.opn.resolve_right λh=>b h.1⟩
 ·rw[iN]
  refine⟨false,rfl,(λh=>by cases h),λh=>?_⟩
  have g:=h.pos
  have d:=h.tgt
  rw[iW (show k.P.B≤k.P.A by omega),iW (show 0≤k.P.B by omega),iW (show k.P.A≤l.Q by omega),iW d.1,iW d.2] at c
  cases c
def Y2 (P:Nat) (t:Int) (e:B9):Bool:=cK e.M&&(decide (0<e.M.A)&&(decide (t≤e.X)&&(decide (0≤e.E)&&decide (e.E<(P:Int)))))
def UL {P:Nat}{t:Int}{e:B9}:Y2 P t e=true↔IA e.M∧0<e.M.A∧t≤e.X∧0≤e.E∧e.E<P:=by
 unfold Y2
 simp only[iQ,jG,Qt]
def Uv {N:Nat}(hN:9007199254740992<N) (b:AU) (U:HX b) (h:Cf) (hq:h.S.length≤4398048311104):∃v,It N b h=some v∧(v=true↔bQ b h):=by
 have Z:=U.pl
 have aa:=U.li
 unfold It
 cases I:(((decide (h.K<0)||decide (16777216<h.K))||decide ((h.M.length:Int)≠(b.D.length:Int)))||decide ((h.F.length:Int)≠(b.F.length:Int)))
 ·simp only[jP,jK] at I
  obtain⟨⟨⟨b1,b2⟩,V⟩,W⟩:=I
  have V:h.M.length=b.D.length:=by omega
  have W:h.F.length=b.F.length:=by omega
  rw[iO]
  rcases Nd h.M.length (λn i=>Ed N h (Ef N b h) n i) (Ef N b h) (λi=>cK (h.M.getD i default)) (λn k d=>by
   simp only[Ed];rw[FY d];rfl) (λn k d=>by
   simp only[Ed]
   rw[FX d,iN,Bv d]
   simp only[iM,EO,N6,BV (show k<4611686018427387904 by omega),nb]
   rw[jY,jE d]
   rfl) N 0 (by omega) (iU _) with ⟨q,J⟩|⟨⟨i,_,a,q⟩,J⟩
  ·rw[show Ed N h (Ef N b h) N 0=Ef N b h from J]
   have o:∀v∈h.M,IA v:=λv o=>by
    obtain⟨i,a,rfl⟩:=kV.1 o
    have:=q i (iU _) a
    rw[jY,jE a] at this
    exact Qt.1 this
   unfold Ef
   rcases Nd h.S.length (λn i=>Ec N b h (Ee N b h) n i) (Ee N b h) (λi=>Y2 b.D.length h.K (h.S.getD i default)&&(decide (i=0)||decide (PN (h.S.getD (i-1) default) (h.S.getD i default)<0))) (λn k d=>by
    simp only[Ec];rw[FY d];rfl) (λn k d=>by
    simp only[Ec]
    rw[FX d,iN,Bv d]
    simp only[iM,EO,N6,GK,BV (show k<4611686018427387904 by omega)]
    rw[jY (i:=k),jE d,jO]
    generalize Q:h.S[k]=x
    have s:((cond (!decide (x.M.B≤x.M.A)) (some true) (some (!(decide (0≤x.M.B)&&decide (x.M.A≤1125899906842624))))).bind λg=>(cond ((g||decide (x.M.A≤0))||decide (x.X<h.K)) (some true) (some (!(decide (0≤x.E)&&decide (x.E<(b.D.length:Int)))))).bind λt=>some t)=some (!Y2 b.D.length h.K x):=by
     unfold Y2 cK
     rw[show decide (x.M.A≤0)= !decide (0<x.M.A) by rw[←decide_not];congr 1;exact propext ⟨λh=>by omega,λh=>by omega⟩,show decide (x.X<h.K)= !decide (h.K≤x.X) by rw[←decide_not];congr 1;exact propext ⟨λh=>by omega,λh=>by omega⟩]
     generalize decide (x.M.B≤x.M.A)=a1
     generalize (decide (0≤x.M.B)&&decide (x.M.A≤1125899906842624))=a2
     generalize decide (0<x.M.A)=a3
     generalize decide (h.K≤x.X)=a4
     generalize (decide (0≤x.E)&&decide (x.E<(b.D.length:Int)))=a5
     cases a1<;>cases a2<;>cases a3<;>cases a4<;>cases a5<;>rfl
    have u:∀{A:Bool→Option Bool},((cond (!decide (x.M.B≤x.M.A)) (some true) (some (!(decide (0≤x.M.B)&&decide (x.M.A≤1125899906842624))))).bind λg=>(cond ((g||decide (x.M.A≤0))||decide (x.X<h.K)) (some true) (some (!(decide (0≤x.E)&&decide (x.E<(b.D.length:Int)))))).bind A)=A (!Y2 b.D.length h.K x):=λ{A}=>by
     have:=jA (λz=>z.bind A) s
     simp only[Option.bind_assoc,iM] at this
     exact this
    rw[u]
    cases Y2 b.D.length h.K x
    ·rfl
    ·rcases mZ k with h0|h0
     ·subst h0
      rw[show decide ((0:Int)<((0:Nat):Int))=false by simp]
      rfl
     ·rw[show decide ((0:Int)<(k:Int))=true by simp;omega,show B8 ((k:Int)-1)=((k-1:Nat):Int) by rw[DE (by omega) (by omega)];omega,Bv (show k-1<h.S.length by omega)]
      simp only[iN,iM]
      rw[PM (by omega),jY,jE (show k-1<h.S.length by omega),jO]
      simp only[iM]
      rw[show decide (0≤PN h.S[k-1] x)= !decide (PN h.S[k-1] x<0) by rw[←decide_not];congr 1;exact propext ⟨λh=>by omega,λh=>by omega⟩,show decide (k=0)=false by simp;omega]
      cases decide (PN h.S[k-1] x<0)<;>rfl) N 0 (by omega) (iU _) with ⟨m,s⟩|⟨⟨i,_,a,m⟩,s⟩
   ·rw[show Ec N b h (Ee N b h) N 0=Ee N b h from s]
    have w:∀(i:Nat) (a:i<h.S.length),Y2 b.D.length h.K h.S[i]=true∧(i=0∨PN (h.S.getD (i-1) default) h.S[i]<0):=λi a=>by
     have:=m i (iU _) a
     rw[jY (i:=i),jE a,jO] at this
     simp only[iQ,jC,jG] at this
     exact this
    have y:XY h.S:=by
     unfold XY
     rw[nC]
     have step:∀(i:Nat) (a:i+1<h.S.length),QR (h.S[i]).X (h.S[i]).E (h.S[i+1]).X (h.S[i+1]).E:=λi a=>by
      have:=(w (i+1) a).2.resolve_left (by omega)
      rw[jY,mM,jE (show i<h.S.length by omega),jO] at this
      exact Na.1 this
     intro i j a Y ab
     induction j with
     |zero=>omega
     |succ j ih=>
      by_cases e:i=j
      ·subst e;exact step i Y
      ·exact QQ (ih (by omega) (by omega)) (step j Y)
    have hQ:N4 b.D.length h.K h.S:=⟨y,λe he=>by
     obtain⟨i,a,rfl⟩:=kV.1 he
     exact UL.1 (w i a).1⟩
    unfold Ee
    rcases Nd h.F.length (λn i=>Eb N b h (E9 N) n i) (E9 N) (λi=>(GT N (b.F.getD i default) (h.F.getD i default)).getD false) (λn k d=>by
     simp only[Eb];rw[FY d];rfl) (λn k d=>by
     have C:k<b.F.length:=by omega
     simp only[Eb]
     rw[FX d,iN,Bv d,Bv C]
     simp only[iM,BV (show k<4611686018427387904 by omega)]
     rw[jY,jE C,jY,jE d,jO,jO]
     obtain⟨v,G,_⟩:=Vm N b.F[k] h.F[k]
     rw[G,iM,jO]
     cases v<;>rfl) N 0 (by omega) (iU _) with ⟨p,u⟩|⟨⟨i,_,a,p⟩,u⟩
    ·rw[show Eb N b h (E9 N) N 0=E9 N from u]
     refine⟨true,rfl,λ_=>⟨by omega,V,W,o,hQ,λk l x hl Q=>?_⟩,λ_=>rfl⟩
     have d:=(jF.1 Q).1
     have:=p k (iU _) d
     rw[jY,hl,jY,Q,jO,jO] at this
     obtain⟨v,G,o⟩:=Vm N l x
     rw[G] at this
     exact o.1 this
    ·rw[show Eb N b h (E9 N) N 0=some false from u]
     refine⟨false,rfl,(λh=>by cases h),λc=>?_⟩
     have H:i<b.F.length:=by omega
     rw[jY,jE H,jY,jE a,jO,jO] at p
     obtain⟨v,G,o⟩:=Vm N b.F[i] h.F[i]
     rw[G,o.2 (c.kn i _ _ (jE H) (jE a))] at p
     cases p
   ·rw[show Ec N b h (Ee N b h) N 0=some false from s]
    refine⟨false,rfl,(λh=>by cases h),λc=>?_⟩
    rw[jY (i:=i),jE a,jO,UL.2 (c.que.el _ (jQ a)),lC] at m
    simp only[jP,jK] at m
    have:=nC.1 c.que.srt (i-1) i (by omega) a (by omega)
    refine absurd (Na.2 this) ?_
    have m:=m.2
    rw[jY,jE (show i-1<h.S.length by omega),jO] at m
    exact m
  ·rw[show Ed N h (Ef N b h) N 0=some false from J]
   refine⟨false,rfl,(λh=>by cases h),λc=>?_⟩
   rw[jY,jE a,jO,Qt.2 (c.vols _ (jQ a))] at q
   cases q
 ·rw[iN]
  refine⟨false,rfl,(λh=>by cases h),λc=>?_⟩
  have q:=c.hour
  have m:=c.vol
  have p:=c.lks
  simp only[jC,jG] at I
  omega
end Go.Proofs.YtibidnaedddfdaaGreat
