import Derived.Test.YtedgiljmffngoaaGreatGPureE2
namespace Go.Proofs.YtedgiljmffngoaaGreat
set_option linter.all false
open Go.RowKit
def sl (N:Nat) (a b:Int):Int:=(Fp N a b).getD 0
def slN {b a q r:Nat}(hd:0<a) (g:b≤a) (c:q=b*1099511627776/a) (d:r=b*1099511627776%a):q≤1099511627776∧b*1099511627776=q*a+r∧r<a:=by
 refine⟨?_,by rw[c,d];exact W3 _ _,by rw[d];exact wO _ hd⟩;rw[c];exact Nat.div_le_of_le_mul (by rw[xM a];rw[xM b];exact Nat.mul_le_mul_left _ g)
structure nH (N:Nat) (b:AF) (l:BM):Prop where
 base:Js b l
 gate:l.F=0→Hm N l.Af.Ay l.Av=some true∧Hm N l.Av l.Af.Az=some true∧(0≤l.U∧l.U≤64)∧(0≤l.Ac∧l.Ac≤l.U)∧(0≤l.Bb∧l.Bb≤1125899906842624)∧(l.Al=0→l.Ar=0)∧(l.C≠ -1∨l.Al=0)
 weir:l.F=1∨l.F=5→0≤l.Bc∧l.Bc≤1125899906842624
 pump:l.F=2→(0≤l.Y∧l.Y≤1125899906842624)∧(1≤l.U∧l.U≤64)∧(0≤l.Ac∧l.Ac≤l.U)
 siph:l.F=3→(0≤l.Aw∧l.Aw≤1125899906842624)∧(0≤l.Ax∧l.Ax≤1125899906842624)∧l.Ax<l.Aw
 seep:l.F=4→(l.Al=0→l.Ar=0)
 none_:l.F≠0→l.F≠2→l.U=0∧l.Ac=0
def W0 {a b:Int}(d:TP a b=true):b=0→a=0:=by
 intro c;simp only[TP,tO,uD,uF] at d;exact d.2.resolve_left λd=>d c
def V1 {N:Nat}(t:18446744073709551616<N) {b:AF}{l:BM}(d:Js b l) (W:FU N l=some true) (a:FT N l=some true):nH N b l:=by
 have H:=d.kind;have k:l.F≠0→l.F≠2→l.U=0∧l.Ac=0:=by
  intro h0 g;unfold FT at a;rw[tY h0,uQ g] at a;simp only[Bool.not_false,Bool.true_and] at a;cases n:(decide (0<(l.Av.length:Int))||decide (0<(l.Af.Ay.length:Int))||decide (0<(l.Af.Az.length:Int))||decide (l.Bb≠0)) with
  |true=>rw[n] at a;cases a
  |false=>
   rw[n,tM] at a;cases i:(decide (l.U≠0)||decide (l.Ac≠0)) with
   |true=>rw[i] at a;cases a
   |false=>
    simp only[uS,uO] at i;exact⟨Decidable.not_not.1 i.1,Decidable.not_not.1 i.2⟩
 unfold FU at W;by_cases k0:l.F=0
 ·obtain⟨n,i,A,I,J⟩:=d.gate k0;obtain⟨K,u⟩:=Px t l.Af.Ay l.Av;obtain⟨M,v⟩:=Px t l.Av l.Af.Az;rw[uQ k0,tL,Pe (by omega) n,Pe (by omega) i,Pe (by omega) A] at W;simp only[u,v,NE,MA,QE,tJ,Fq,Pf] at W;have W:=tN W;simp only[tO,uD,uF] at W;obtain⟨⟨⟨⟨⟨⟨⟨⟨⟨_,_⟩,_⟩,o⟩,q⟩,B⟩,C⟩,D⟩,G⟩,s⟩:=W;subst o;subst q;exact⟨d,λ_=>⟨u,v,KR B,KR C,K2 D,W0 G,s⟩,λW=>by omega,λW=>by omega,λW=>by omega,λW=>by omega,k⟩
 ·rw[tY k0,tM] at W;have w:∀c:Bool,(c=true↔l.F=1∨l.F=5)→Dg N l c=some true→nH N b l:=by
   intro c x W;unfold Dg at W;simp only[NE,MA,QE,tJ,Fq,Pf] at W;cases c
   ·have Q:¬(l.F=1∨l.F=5):=λW=>by have:=x.2 W;cases this
    rw[tM] at W;by_cases y:l.F=2
    ·rw[uQ y,tL] at W;have W:=tN W;simp only[tO] at W;obtain⟨⟨m,g⟩,j⟩:=W;exact⟨d,λW=>by omega,λW=>by omega,λ_=>⟨K2 m,KR g,KR j⟩,λW=>by omega,λW=>by omega,k⟩
    ·rw[tY y,tM] at W;by_cases z:l.F=3
     ·rw[uQ z,tL] at W;have W:=tN W;simp only[tO,uF] at W;obtain⟨⟨⟨⟨m,g⟩,j⟩,o⟩,q⟩:=W;exact⟨d,λW=>by omega,λW=>by omega,λW=>by omega,λ_=>⟨K2 j,K2 o,q⟩,λW=>by omega,k⟩
     ·rw[tY z,tM] at W;have W:=tN W;simp only[tO,uF] at W;obtain⟨⟨⟨m,g⟩,j⟩,o⟩:=W;exact⟨d,λW=>by omega,λW=>by omega,λW=>by omega,λW=>by omega,λ_=>W0 j,k⟩
   ·have V:=x.1 rfl;rw[tL] at W;have W:=tN W;simp only[tO] at W;obtain⟨⟨m,g⟩,j⟩:=W;exact⟨d,λW=>by omega,λ_=>K2 m,λW=>by omega,λW=>by omega,λW=>by omega,k⟩
  by_cases p:l.F=1
  ·rw[uQ p,tL] at W;exact w true (by simp [p]) W
  ·rw[tY p,tM] at W;exact w _ (by simp [p]) W
def YA {N:Nat}(c:18446744073709551616<N) {b:AF}(d:H1 b) (p:∀l∈b.E,Js b l) (z:E2 N b=some true):∀l∈b.E,nH N b l:=by
 have v:=d.pl;have w:=d.li;unfold E2 at z;rcases I4 b.E.length (CW N b (DL N)) (DL N) (λi=>∀l,b.E[i]? =some l→nH N b l) (λn k z=>by
  simp only[CW];rw[Eg z];rfl) (λn k z=>by
  simp only[CW];obtain⟨x,g,y⟩:=TS c b.E[k];obtain⟨q,j⟩:=Sy N b.E[k];rw[EZ z,tL,BG z];simp only[tJ,NE,QB N _ (show b.A.length<4611686018427387904 by omega),QU N b _ _ (show b.A.length<4611686018427387904 by omega),g,j,Fq,K8,BH (show k<4611686018427387904 by omega)];generalize m:(_|| !q)=B
  cases B
  ·simp only[uS,xE] at m;obtain⟨⟨_,s⟩,t⟩:=m;subst s;subst t;refine .inr ⟨λl a=>?_,rfl⟩;have:l=b.E[k]:=by simpa [z] using a.symm
   rw[this];exact V1 c (p _ (uE z)) g j
  ·exact .inl rfl) N 0 (by omega) (tU _) with u|⟨hp,_⟩
 ·rw[show CW N b (DL N) N 0=some false from u] at z;cases z
 ·intro l a;obtain⟨i,o,rfl⟩:=xF.1 a;exact hp i (tU _) o _ (by simp [o])
def Holds (n:Nat) (s:List Int) (g:Nat→Int):Prop:=s.length=n∧∀i,i<n→s[i]? =some (g i)
def Holds.ix {n:Nat}{s:List Int}{g:Nat→Int}(c:Holds n s g) {a:Int}(h0:0≤a) (b:a<n):ix s a=some (g a.toNat):=by
 unfold Go.Proofs.YtedgiljmffngoaaGreat.ix;rw[tQ (by omega)];exact c.2 _ (by omega)
def Holds.upd {n:Nat}{s:List Int}{g:Nat→Int}(j:Holds n s g) {a:Int}(h0:0≤a) (c:a<n) (v:Int):Holds n (upd s a v) (λi=>if (i:Int)=a then v else g i):=by
 refine⟨by rw[LG,j.1],λi b=>?_⟩;unfold Go.Proofs.YtedgiljmffngoaaGreat.upd;rw[List.getElem?_set];have d:=j.1;show _=some (if (i:Int)=a then v else g i)
 by_cases e:(i:Int)=a
 ·rw[tT (by omega),tT (by omega),tT e]
 ·rw[tQ (by omega),tQ e];exact j.2 i b
def Holds.congr {n:Nat}{s:List Int}{g a:Nat→Int}(c:Holds n s g) (e:∀i,i<n→g i=a i):Holds n s a:=⟨c.1,λi b=>(c.2 i b).trans (tK some (e i b))⟩
def sV (s:AE) (k:Nat):AT:=s.M.getD k default
structure aQ (W:Nat) (out:List Int) (ms:List AK) (sn:List AV) (M:Nat):Prop where
 out:out.length=W
 mv:ms.length≤M
 sn:sn.length≤M
def aQ.next {b:AF}{H:Int}{N W p M:Nat}{o m:List (List Int)}{out a:List Int}{i d:List AK}{j g:List AV}{l:List AK}(q:aQ W out i j M) (k:UP b H N W p o out i j m a d g l) {c:Nat}(n:l.length≤c):aQ W a d g (M+c):=
 ⟨k.ol,by rw[k.ms_,uJ];have:=q.mv;omega,by
  rw[k.sn_,uJ];have:=List.length_filterMap_le (Lq b H) l;have:=q.sn;omega⟩
def aQ.le {W M a:Nat}{out:List Int}{b:List AK}{c:List AV}(g:aQ W out b c M) (d:M≤a):aQ W out b c a:=⟨g.out,vH g.mv d,vH g.sn d⟩
def Tx {α}{c:Prop}[Decidable c] {x:α}:(if c then [] else [x]).length≤1:=by split<;>simp
structure sD (b:AF) (s:AE):Prop where
 own:Ih b.A.length b.H.length s.D
 que:QX b.A.length b.H.length s.G
 tot:EO s.D+Fi s.G≤1125899906842624
 rem:s.L.length=b.A.length
 gates:s.M.length=b.E.length
 inn:s.N.length=b.H.length
 inn0:∀x∈s.N,0≤x
 inns:s.N.sum≤1152921504606846976
 out:s.K.length=b.H.length
structure qF (b:AF) (H:Int) (N W k:Nat) (o:List (List Int)) (out:List Int) (ms:List AK) (o':List (List Int)) (out':List Int) (ms':List AK) (sn':List AV) (l:List AK):Prop where
 mv:∀m∈l,∃p,p<k∧qY b H W p m
 ord:l.Pairwise λa c=>a.J≤c.J
 ms_:ms'=ms++l
 own:o'=RQ o l
 out_:out'=Sm N out l
 sn_:sn'=l.filterMap (Lq b H)
 val:Qt l o
 ox:Ih b.A.length W o'
 ol:out'.length=W
 tot:EO o'+K6 l=EO o
def qF.next {b:AF}{H:Int}{N W k:Nat}{o y t:List (List Int)}{out g d:List Int}{z u n:List AK}{v s:List AV}{l A:List AK}(I:qF b H N W k o out z y g u v l) (q:UP b H N W k y g u v t d n s A):qF b H N W (k+1) o out z t d n s (l++A):=
 ⟨λm w=>(vC.1 w).elim (λw=>by obtain⟨p,B,x⟩:=I.mv m w;exact⟨p,by omega,x⟩) (λw=>⟨k,by omega,q.mv m w⟩),
  List.pairwise_append.2 ⟨I.ord,yQ.2 λi j C D _=>by
  rw[(q.mv _ (uE C)).fr,(q.mv _ (uE D)).fr];exact vD _,λa F c G=>by
  obtain⟨p,B,x⟩:=I.mv a F;rw[x.fr,(q.mv c G).fr];omega⟩,
  by rw[q.ms_,I.ms_,xU],by rw[q.own,I.own];unfold RQ;rw[xY],by rw[q.out_,I.out_];unfold Sm;rw[xY],by rw[q.sn_,I.sn_,List.filterMap_append],I.val.app (by rw[←I.own];exact q.val),q.ox,q.ol,by rw[U9];have:=I.tot;have:=q.tot;omega⟩
def TG {N:Nat}(a:1000000<N) (p:List Int) (W:Nat):∃v,IR N p (W:Int)=some v∧(v=true→PX W p∧W≤16):=by
 unfold IR;cases b:((decide (0≤(W:Int))&&decide ((W:Int)≤16))&&decide ((p.length:Int)=(W:Int)))
 ·exact⟨_,rfl,λd=>by cases d⟩
 ·simp only[tO,uF] at b;obtain⟨v,c,k⟩:=X2 a (p:=p) (by omega);rw[tL,c];exact⟨_,rfl,λd=>⟨⟨by omega,(k d).1,(k d).2⟩,by omega⟩⟩
def Ui {N:Nat}(q:1000000<N) {l:List Int}(t:l.length≤1000) {m:Int}(d:0≤m∧m≤2305843009213693952):∃r,HG N l m=some r∧(r.2=true→(∀x∈l,0≤x)∧l.sum≤m∧r.1=l.sum):=by
 unfold HG;rcases Mp l.length (λn i s=>DW N l m (FX N) n s i) (FX N) (some (0,false)) (λk s=>(∀x∈l.take k,0≤x)∧s=(l.take k).sum∧s≤m∧0≤s) (λn k s a=>by
  simp only[DW];rw[Eg a];rfl) (λn k s g a=>by
  obtain⟨b,c,j,o⟩:=g;simp only[DW];rw[EZ a,tL,BG a,tJ,BH (by omega),Cv (n:=m-s) (by omega) (by omega)];cases p:(decide (l[k]<0)||decide (m-s<l[k]))
  ·simp only[uS,uO] at p;rw[tM,Cv (n:=s+l[k]) (by omega) (by omega)];exact .inr ⟨_,⟨LH a b (by omega),by rw[Ik a,c],by omega,by omega⟩,rfl⟩
  ·exact .inl rfl) N 0 0 ⟨by simp,rfl,d.1,vD _⟩ (by omega) (tU _) with e|⟨s,⟨b,c,j,o⟩,e⟩
 ·exact⟨_,e,λu=>by cases u⟩
 ·rw[uZ] at b c;exact⟨_,e,λ_=>⟨b,by omega,c⟩⟩
def X9 {N:Nat}(j:1000000<N) (b:AF) (s:AE) (W:s.D.length≤1000) (X:s.G.length≤100000):∃r,Ia N b s=some r∧(r.2=true→(∀x∈s.D,PX b.H.length x)∧(∀l∈s.G,(PX b.H.length l.T∧0≤l.C∧l.C<b.A.length)∧s.B≤l.Am∧0<l.T.sum)∧r.1=EO s.D+Fi s.G∧r.1≤1125899906842624):=by
 unfold Ia;rcases Mp s.D.length (λn i t=>DA N b s (Ct N b s) n t i) (Ct N b s) (some (0,false)) (λk t=>(∀x∈s.D.take k,PX b.H.length x)∧t=EO (s.D.take k)∧0≤t∧t≤1125899906842624) (λn k t a=>by
  simp only[DA];rw[Eg a];rfl) (λn k t q a=>by
  obtain⟨m,w,I,J⟩:=q;simp only[DA];obtain⟨v,y,z⟩:=TG j s.D[k] b.H.length;rw[EZ a,tL,BG a,tJ,y,tJ,BH (by omega)];cases v
  ·exact .inl rfl
  ·obtain⟨c,d⟩:=z rfl;have Q:=c.mv;have U:=c.sum0;rw[uP,tM,c.total j (by omega),tJ,Cv (n:=t+(s.D[k]).sum) (by omega) (by omega)];by_cases g:1125899906842624<t+(s.D[k]).sum
   ·rw[uQ g];exact .inl rfl
   ·rw[tY g];exact .inr ⟨_,⟨LH a m c,by rw[L5 a,w],by omega,by omega⟩,rfl⟩) N 0 0 ⟨by simp,rfl,vD _,by decide⟩ (by omega) (tU _) with e|⟨t,⟨m,w,I,J⟩,e⟩
 ·exact⟨_,e,λZ=>by cases Z⟩
 ·rw[show DA N b s (Ct N b s) N 0 0=Ct N b s t from e];rw[uZ] at m w;unfold Ct;rcases Mp s.G.length (λn i t=>D1 N b s (GA N) n t i) (GA N) (some (0,false)) (λk u=>(∀l∈s.G.take k,(PX b.H.length l.T∧0≤l.C∧l.C<b.A.length)∧s.B≤l.Am∧0<l.T.sum)∧u=t+Fi (s.G.take k)∧0≤u∧u≤1125899906842624) (λn k t a=>by
   simp only[D1];rw[Eg a];rfl) (λn k u q a=>by
   obtain⟨o,F,V,K⟩:=q;simp only[D1];obtain⟨v,y,z⟩:=TG j (s.G[k]).T b.H.length;rw[EZ a,tL,BG a,BH (by omega)];simp only[tJ,L3,y,Fq];cases g:cond (decide ((s.G[k]).Am<s.B)) true (!(decide (0≤(s.G[k]).C)&&decide ((s.G[k]).C<(b.A.length:Int))))
   ·rw[K8,uS] at g;obtain⟨M,p⟩:=g;have M:=of_decide_eq_false M;rw[xE] at p;obtain⟨p,Y⟩:=QC.1 p;cases v
    ·exact .inl rfl
    ·obtain⟨c,d⟩:=z rfl;have Q:=c.mv;have U:=c.sum0;simp only[uP,tM];rw[c.total j (by omega),tJ,Cv (n:=u+(s.G[k]).T.sum) (by omega) (by omega)];cases hd:(decide ((s.G[k]).T.sum≤0)||decide (1125899906842624<u+(s.G[k]).T.sum))
     ·simp only[uS,uO] at hd;exact .inr ⟨_,⟨LH a o ⟨⟨c,p,by omega⟩,by omega,by omega⟩,by rw[K5 a,F];omega,by omega,by omega⟩,rfl⟩
     ·exact .inl rfl
   ·exact .inl rfl) N 0 t ⟨by simp,by simp [Fi],I,J⟩ (by omega) (tU _) with d|⟨u,⟨o,F,V,K⟩,d⟩
  ·exact⟨_,d,λZ=>by cases Z⟩
  ·rw[uZ] at o F;exact⟨_,d,λ_=>⟨m,o,by show u=_;omega,K⟩⟩
structure sZ (b:AF) (s:AE):Prop where
 x:sD b s
 hour:0≤s.B∧s.B≤16777216
 gts:∀(k:Nat) l g,b.E[k]? =some l→s.M[k]? =some g→(0≤g.V∧g.V≤l.U)∧(0≤g.W∧g.W≤l.U)
 at_:∀l∈s.G,s.B≤l.Am∧0<l.T.sum
 out0:∀x∈s.K,0≤x
 outs:s.K.sum≤s.N.sum+1125899906842624-(EO s.D+Fi s.G)
structure YN (b:AF) (s:AE):Prop where
 rg:sZ b s
 rem:∀(k:Nat) p m,b.A[k]? =some p→s.L[k]? =some m→0≤m∧m≤max 0 (p.S-1)
 opn:∀(k:Nat) l g,b.E[k]? =some l→s.M[k]? =some g→g.Ai=true→l.F=5∨l.F=3
def Xs {N:Nat}(Q:1000000<N) {b:AF}(X:H1 b) (w:∀p∈b.A,Hg b p) (s:AE) (hq:s.G.length≤100000):∃v,Hc N b s=some v∧(v=true→YN b s):=by
 have hP:=X.pl;have hL:=X.li;have hW:=X.own;unfold Hc;generalize hB:(_||decide ((s.K.length:Int)≠(b.H.length:Int)))=B
 cases B
 ·simp only[uS,uO,ne_eq,Decidable.not_not] at hB;obtain⟨⟨⟨⟨⟨⟨b1,b2⟩,b3⟩,b4⟩,b5⟩,b6⟩,b7⟩:=hB;rw[tM];rcases Mp b.A.length (λn i (_:Unit)=>DV N b s (DD N b s) n i) (λ_=>DD N b s) (some false) (λi _=>∀(k:Nat) p m,k<i→b.A[k]? =some p→s.L[k]? =some m→0≤m∧m≤max 0 (p.S-1)) (λn k t c=>by
   simp only[DV];rw[Eg c];rfl) (λn k t Y c=>by
   simp only[DV];have y:k<s.L.length:=by omega
   have hd:=(w _ (uE c)).den;unfold I3 at hd;rw[EZ c,tL,BG c,BG y,BH (by omega)];simp only[tJ,Fq,K8];rw[Cv (n:=(b.A[k]).S-1) (by omega) (by omega)];cases J:(decide (s.L[k]<0)||decide (max 0 ((b.A[k]).S-1)<s.L[k]))
   ·simp only[uS,uO] at J;refine .inr ⟨(),λj p m hj q z=>?_,rfl⟩;by_cases d:j=k
    ·subst d;rw[uC c] at q;rw[uC y] at z;cases q;cases z;omega
    ·exact Y j p m (by omega) q z
   ·exact .inl rfl) N 0 () (λk p m h=>by omega) (by omega) (tU _) with e|⟨_,i1,e⟩
  ·exact⟨_,e,λh=>by cases h⟩
  ·rw[show DV N b s (DD N b s) N 0=DD N b s from e];unfold DD;rcases Mp b.E.length (λn i (_:Unit)=>DU N b s (DC N b s) n i) (λ_=>DC N b s) (some false) (λi _=>∀(k:Nat) l g,k<i→b.E[k]? =some l→s.M[k]? =some g→((0≤g.V∧g.V≤l.U)∧(0≤g.W∧g.W≤l.U))∧(g.Ai=true→l.F=5∨l.F=3)) (λn k t c=>by
    simp only[DU];rw[Eg c];rfl) (λn i t Y c=>by
    simp only[DU];have y:i<s.M.length:=by omega
    rw[EZ c,tL,BG c,BG y,BH (by omega)];simp only[tJ];cases J:(((decide ((s.M[i]).V<0)||decide ((b.E[i]).U<(s.M[i]).V))||decide ((s.M[i]).W<0))||decide ((b.E[i]).U<(s.M[i]).W))
    ·simp only[uS,uO] at J;obtain⟨⟨⟨c1,c2⟩,c3⟩,c4⟩:=J;rw[tM];cases Z:(((s.M[i]).Ai&&decide ((b.E[i]).F≠5))&&decide ((b.E[i]).F≠3))
     ·refine .inr ⟨(),λk l g af a o=>?_,rfl⟩;by_cases d:k=i
      ·subst d;rw[uC c] at a;rw[uC y] at o;cases a;cases o;refine⟨⟨⟨by omega,by omega⟩,by omega,by omega⟩,λaa=>?_⟩;rw[aa,Bool.true_and,Bool.and_eq_false_iff] at Z;simp only[uO,ne_eq,Decidable.not_not] at Z;exact Z
      ·exact Y k l g (by omega) a o
     ·exact .inl rfl
    ·exact .inl rfl) N 0 () (λk l g h=>by omega) (by omega) (tU _) with e|⟨_,i2,e⟩
   ·exact⟨_,e,λh=>by cases h⟩
   ·rw[show DU N b s (DC N b s) N 0=DC N b s from e];unfold DC;obtain⟨r,er,k1⟩:=X9 Q b s (by omega) hq;rw[er,tJ];cases ab:r.2
    ·exact⟨_,rfl,λh=>by cases h⟩
    ·obtain⟨k1,k2,k3,k4⟩:=k1 ab;have C:Ih b.A.length b.H.length s.D:=⟨by omega,k1⟩
     have I:QX b.A.length b.H.length s.G:=λl a=>(k2 l a).1;have ag:=C.sum0;have ac:=(FA I 0).2;rw[wD,show Fi ([]:List AV)=0 from rfl] at ac;obtain⟨u,hu,ku⟩:=Ui Q (l:=s.N) (by omega) (m:=1152921504606846976) (by decide);rw[uP,tM,hu,tJ];cases ad:u.2
     ·exact⟨_,rfl,λh=>by cases h⟩
     ·obtain⟨u1,u2,u3⟩:=ku ad;have u0:=Jq u1;rw[Cv (n:=u.1+1125899906842624) (by omega) (by omega),Cv (n:=u.1+1125899906842624-r.1) (by omega) (by omega)];obtain⟨x,hx,kx⟩:=Ui Q (l:=s.K) (by omega) (m:=u.1+1125899906842624-r.1) ⟨by omega,by omega⟩;rw[uP,tM,hx,tJ];refine⟨_,rfl,λae=>?_⟩;obtain⟨x1,x2,x3⟩:=kx ae;exact⟨⟨⟨C,I,by omega,by omega,by omega,by omega,u1,u2,by omega⟩,⟨by omega,by omega⟩,λk l g a o=>(i2 k l g (uB.1 a).1 a o).1,λl a=>(k2 l a).2,x1,by omega⟩,λk p m q z=>i1 k p m (uB.1 q).1 q z,λk l g a o=>(i2 k l g (uB.1 a).1 a o).2⟩
 ·exact⟨_,rfl,λh=>by cases h⟩
def U3 {N W:Nat}(g:1000000<N) (j:W≤16) {p:List Int}(a:PX W p):IR N p (W:Int)=some true:=by
 have c:HA N p=some true:=by
  unfold HA;obtain⟨s,_,e⟩:=Em p.length (λn i s=>DE N p (E7 N) n s i) (λ_=>E7 N) (λk s=>s=(p.take k).sum) (λn k s b=>by
   simp only[DE];rw[Eg b];rfl) (λn k s d b=>by
   have c:=Gk a.nn (k+1);have l:=Gk a.nn k;have m:=a.nn _ (uE b);have o:=a.mv;have q:=a.len;rw[Ik b] at c;simp only[DE];rw[EZ b,tL,BG b,tJ,Cv (n:=1125899906842624-s) (by omega) (by omega),tY (show ¬p[k]<0 by omega),tY (show ¬1125899906842624-s<p[k] by omega),wT,tM,Cv (n:=s+p[k]) (by omega) (by omega),BH (by omega)];exact⟨_,by rw[Ik b,d],rfl⟩) N 0 0 rfl (by have:=a.len;omega) (tU _)
  exact e
 unfold IR;rw[a.len,uQ (show(0:Int)≤(W:Int) by omega),uQ (show(W:Int)≤16 by omega),uQ rfl,Bool.and_self,Bool.and_self,tL,c];rfl
def WY {N:Nat}(g:1000000<N) {l:List Int}(j:l.length≤1000) {m:Int}(o:m≤2305843009213693952) (h0:∀x∈l,0≤x) (p:l.sum≤m):HG N l m=some (l.sum,true):=by
 unfold HG;obtain⟨s,b,e⟩:=Em l.length (λn i s=>DW N l m (FX N) n s i) (FX N) (λk s=>s=(l.take k).sum) (λn k s a=>by
  simp only[DW];rw[Eg a];rfl) (λn k s c a=>by
  have d:=Gk h0 (k+1);have q:=Gk h0 k;have t:=h0 _ (uE a);rw[Ik a] at d;simp only[DW];rw[EZ a,tL,BG a,tJ,Cv (n:=m-s) (by omega) (by omega),tY (show ¬l[k]<0 by omega),tY (show ¬m-s<l[k] by omega),wT,tM,Cv (n:=s+l[k]) (by omega) (by omega),BH (by omega)];exact⟨_,by rw[Ik a,c],rfl⟩) N 0 0 rfl (by omega) (tU _)
 rw[uZ] at b;subst b;exact e
def ZR {N:Nat}(j:1000000<N) {b:AF}(I:b.A.length≤64) (v:b.H.length≤16) {s:AE}(g:Ih b.A.length b.H.length s.D) (J:s.G.length≤900000) (c:QX b.A.length b.H.length s.G) (m:∀l∈s.G,s.B≤l.Am∧0<l.T.sum) (K:EO s.D+Fi s.G≤1125899906842624):Ia N b s=some (EO s.D+Fi s.G,true):=by
 have y:=g.len;have o:=(FA c 0).2;rw[wD,show Fi ([]:List AV)=0 from rfl] at o;have z:=g.sum0;unfold Ia;obtain⟨t,w,e⟩:=Em s.D.length (λn i t=>DA N b s (Ct N b s) n t i) (Ct N b s) (λk t=>t=EO (s.D.take k)) (λn k t a=>by
  simp only[DA];rw[Eg a];rfl) (λn k t p a=>by
  have d:=g.all _ (uE a);have q:=Kc g (k+1);have C:=Kc g k;have M:=d.sum0;rw[L5 a] at q ⊢;simp only[DA];rw[EZ a,tL,BG a,tJ,U3 j v d,tJ,uP,tM,d.total j (by omega),tJ,Cv (n:=t+(s.D[k]).sum) (by omega) (by omega),tY (by omega),tM,BH (by omega)];exact⟨_,by rw[p],rfl⟩) N 0 0 (by simp [EO]) (by omega) (tU _)
 rw[show DA N b s (Ct N b s) N 0 0=Ct N b s t from e];rw[uZ] at w;subst w;unfold Ct;obtain⟨u,x,F⟩:=Em s.G.length (λn i t=>D1 N b s (GA N) n t i) (GA N) (λk t=>t=EO s.D+Fi (s.G.take k)) (λn k t a=>by
  simp only[D1];rw[Eg a];rfl) (λn k t p a=>by
  have d:=c _ (uE a);have Q:=m _ (uE a);have q:=FA c (k+1);have C:=FA c k;rw[K5 a] at q ⊢;simp only[D1];rw[EZ a,tL,BG a,tJ,tY (show ¬(s.G[k]).Am<s.B by omega),tM,L3,tJ,uQ d.2.1,uQ d.2.2,Bool.and_self,uP,tJ,tM,U3 j v d.1,tJ,uP,tJ,tM,d.1.total j (by omega),tJ,Cv (n:=t+(s.G[k]).T.sum) (by omega) (by omega),tY (show ¬(s.G[k]).T.sum≤0 by omega),tY (show ¬1125899906842624<t+(s.G[k]).T.sum by omega),wT,tM,BH (by omega)];exact⟨_,by rw[p];omega,rfl⟩) N 0 (EO s.D) (by simp [Fi]) (by omega) (tU _)
 rw[uZ] at x;subst x;exact F
def Y2 {N:Nat}(g:1000000<N) {b:AF}(j:H1 b) (d:∀p∈b.A,Hg b p) {s:AE}(y:s.G.length≤900000) (h:YN b s):Hc N b s=some true:=by
 have z:=j.pl;have hL:=j.li;have C:=j.own;have l:=h.rg.x.own.len;have m:=h.rg.x.rem;have o:=h.rg.x.gates;have q:=h.rg.x.inn;have t:=h.rg.x.out;have hh:=h.rg.hour;have H:=h.rg.x.own.sum0;have u:=(FA h.rg.x.que 0).2;rw[wD,show Fi ([]:List AV)=0 from rfl] at u;have I:=Jq h.rg.x.inn0;have J:=h.rg.x.inns;have K:=h.rg.outs;have Q:=h.rg.x.tot;unfold Hc;rw[l,m,o,q,t,tY (show ¬s.B<0 by omega),tY (show ¬16777216<s.B by omega)];simp only[ne_eq,not_true_eq_false,decide_false,wT,tM];have X:DV N b s (DD N b s) N 0=DD N b s:=Ke b.A.length (λn i=>DV N b s (DD N b s) n i) (DD N b s) (λn k a=>by
  simp only[DV];rw[Eg a];rfl) (λn k a=>by
  have c:k<s.L.length:=by omega
  have hd:=(d _ (uE a)).den;have hm:=h.rem k _ _ (uC a) (uC c);unfold I3 at hd;simp only[DV];rw[EZ a,tL,BG a,tJ,BG c,tJ,tY (show ¬s.L[k]<0 by omega),tM,tJ,Cv (n:=(b.A[k]).S-1) (by omega) (by omega),tY (show ¬max 0 ((b.A[k]).S-1)<s.L[k] by omega),tJ,tM,BH (by omega)]) N 0 (by omega) (tU _)
 have Y:DU N b s (DC N b s) N 0=DC N b s:=Ke b.E.length (λn i=>DU N b s (DC N b s) n i) (DC N b s) (λn k a=>by
  simp only[DU];rw[Eg a];rfl) (λn k a=>by
  have c:k<s.M.length:=by omega
  obtain⟨⟨g1,g2⟩,g3,g4⟩:=h.rg.gts k _ _ (uC a) (uC c);have Z:=h.opn k _ _ (uC a) (uC c);have v:(((s.M[k]).Ai&&decide ((b.E[k]).F≠5))&&decide ((b.E[k]).F≠3))=false:=by
   cases w:(s.M[k]).Ai
   ·rfl
   ·rcases Z w with e|e
    ·simp [e]
    ·simp [e]
  simp only[DU];rw[EZ a,tL,BG a,tJ,BG c,tJ,tY (show ¬(s.M[k]).V<0 by omega),tY (show ¬(b.E[k]).U<(s.M[k]).V by omega),tY (show ¬(s.M[k]).W<0 by omega),tY (show ¬(b.E[k]).U<(s.M[k]).W by omega),wT,wT,wT,tM,v,tM,BH (by omega)]) N 0 (by omega) (tU _)
 rw[X];unfold DD;rw[Y];unfold DC;rw[ZR g z C h.rg.x.own y h.rg.x.que h.rg.at_ h.rg.x.tot,tJ,uP,tM,WY g (by omega) (by decide) h.rg.x.inn0 h.rg.x.inns,tJ,uP,tM];simp only;rw[Cv (n:=s.N.sum+1125899906842624) (by omega) (by omega),Cv (n:=s.N.sum+1125899906842624-(EO s.D+Fi s.G)) (by omega) (by omega),WY g (by omega) (by omega) h.rg.out0 h.rg.outs,tJ]
structure VW (l:BM) (g:AT):Prop where
 pos:0≤g.V∧g.V≤l.U
 tgt:0≤g.W∧g.W≤l.U
 opn:g.Ai=true→l.F=5∨l.F=3
def No (b:AF) (a:List AT):Prop:=a.length=b.E.length∧∀(k:Nat) l g,b.E[k]? =some l→a[k]? =some g→VW l g
def SY (b:AF):Prop:=∀l∈b.E,(0≤l.U∧l.U≤64)∧0≤l.Ac∧l.Ac≤l.U
def No.at_ {b:AF}{a:List AT}(j:No b a) {i:Int}{l:BM}{g:AT}(c:ix b.E i=some l) (d:ix a i=some g):VW l g:=j.2 _ _ _ (Et c).2 (Et d).2
def No.upd {b:AF}{j:List AT}(p:No b j) {i:Int}{l:BM}{g:AT}(d:ix b.E i=some l) (m:VW l g):No b (upd j i g):=by
 obtain⟨h0,d⟩:=Et d;refine⟨by rw[MC];exact p.1,λk n o c a=>?_⟩;unfold Go.Proofs.YtedgiljmffngoaaGreat.upd at a;by_cases e:i.toNat=k
 ·rw[e] at d a;rw[d] at c;cases c;rw[xA (by rw[p.1];exact(uB.1 d).1)] at a;cases a;exact m
 ·rw[wR e] at a;exact p.2 k n o c a
def VW.fault {N:Nat}{l:BM}{g a:AT}{k:Int}(m:VW l g) (e:He N l g k=some a):VW l a:=by
 have d:∀c:Bool,Gp N l g k (Fx N g) c=some a→VW l a:=λc e=>by
  unfold Gp at e;cases c
  ·cases e;exact⟨m.pos,m.tgt,m.opn⟩
  ·by_cases b:l.F=5
   ·rw[uQ b] at e;cases e;exact⟨m.pos,m.tgt,λ_=> .inl b⟩
   ·rw[tY b] at e;cases e;exact⟨m.pos,m.tgt,m.opn⟩
 unfold He at e;cases h0:decide (k=0)<;>rw[h0] at e
 ·cases i:decide (k=1)<;>rw[i] at e
  ·cases j:decide (k=2)<;>rw[j] at e
   ·exact d (decide (k=3)) e
   ·exact d true e
  ·cases e;exact⟨m.pos,m.tgt,m.opn⟩
 ·cases e;exact⟨m.pos,m.tgt,m.opn⟩
def VW.aim {N:Nat}{l:BM}{g a:AT}{t:Int}(c:0≤l.U) (o:VW l g) (e:I7 N l g t=some a):VW l a:=by
 obtain⟨x,d,i,n,j⟩:=aO N l g t;have b:a=x:=tN (e.symm.trans d);have k:a.Ai=g.Ai:=by
  unfold I7 at e;cases m:decide (l.U≠0)<;>rw[m] at e
  ·cases e;rfl
  ·obtain⟨y,_,e⟩:=bd e;cases e;rfl
 exact⟨by rw[b,i];exact o.pos,by rw[b];exact j c o.tgt.1 o.tgt.2,by rw[k];exact o.opn⟩
def VW.move {N:Nat}{l:BM}{g a:AT}(b:(0≤l.U∧l.U≤64)∧0≤l.Ac∧l.Ac≤l.U) (k:VW l g) (e:Hk N l g=some a):VW l a:=by
 have i:gM N l g=a:=tN ((Zh N l g).symm.trans e);have c:=(jG N l g b.1.2 b.2 k.pos k.tgt).1;rw[i] at c;have d:a.W=g.W∧a.Ai=g.Ai:=by
  unfold Hk at e;cases j:g.At<;>rw[j] at e
  ·rw[tM] at e;obtain⟨_,_,e⟩:=bd e;obtain⟨_,_,e⟩:=bd e;obtain⟨_,_,e⟩:=bd e;obtain⟨_,_,e⟩:=bd e;cases e;exact⟨rfl,rfl⟩
  ·cases e;exact⟨rfl,rfl⟩
 exact⟨c,by rw[d.1];exact k.tgt,by rw[d.2];exact k.opn⟩
def VW.siphon {N:Nat}{l:BM}{g b:AT}{v:Int}(d:VW l g) (e:G9 N l g v=some b):VW l b:=by
 unfold G9 at e;by_cases a:l.F=3
 ·rw[show decide (l.F≠3)=false by simp [a],tM] at e;cases c:decide (l.Aw≤v)<;>rw[c] at e
  ·cases hd:decide (v≤l.Ax)<;>rw[hd] at e<;>cases e
   ·exact⟨d.pos,d.tgt,λ_=> .inr a⟩
   ·exact⟨d.pos,d.tgt,λ_=> .inr a⟩
  ·cases e;exact⟨d.pos,d.tgt,λ_=> .inr a⟩
 ·rw[show decide (l.F≠3)=true by simp [a],tL] at e;cases e;exact d
def TJ {N:Nat}{w:AN}(j:SY w.b):∀(n:Nat) (i:Int) {a r:List AT},No w.b a→C7 N w n i a=some r→No w.b r
 |0,_,_,_,_,e=>by cases e
 |n+1,i,a,r,q,e=>by
  simp only[C7] at e;cases k:decide (i<(w.b.E.length:Int))<;>rw[k] at e
  ·cases e;exact q
  ·rw[tL] at e;obtain⟨l,c,e⟩:=bd e;obtain⟨o,_,e⟩:=bd e;obtain⟨g,m,e⟩:=bd e;obtain⟨p,d,e⟩:=bd e;obtain⟨_,_,e⟩:=bd e;obtain⟨_,_,e⟩:=bd e;exact TJ j n _ (q.upd c ((q.at_ c m).move (j l (vM (Et c).2)) d)) e
def Qj {N:Nat}{w:AN}(a:SY w.b):∀(n:Nat) (i:Int) {c r:List AT},No w.b c→CQ N w (Ci N w) n i c=some r→No w.b r
 |0,_,_,_,_,e=>by cases e
 |n+1,i,c,r,q,e=>by
  simp only[CQ,GD] at e;cases k:decide (i<(w.in_.Aj.length:Int))<;>rw[k] at e
  ·exact TJ a N 0 q e
  ·rw[tL] at e;obtain⟨x,_,e⟩:=bd e;obtain⟨y,_,e⟩:=bd e;cases y with
   |false=>exact Qj a n _ q e
   |true=>
    rw[tL] at e;obtain⟨l,d,e⟩:=bd e;obtain⟨o,_,e⟩:=bd e;obtain⟨g,m,e⟩:=bd e;obtain⟨p,j,e⟩:=bd e;obtain⟨_,_,e⟩:=bd e;obtain⟨_,_,e⟩:=bd e;exact Qj a n _ (q.upd d ((q.at_ d m).aim (a l (vM (Et d).2)).1.1 j)) e
def Qk {N:Nat}{w:AN}(a:SY w.b):∀(n:Nat) (i:Int) {c r:List AT},No w.b c→CR N w (Cj N w) n i c=some r→No w.b r
 |0,_,_,_,_,e=>by cases e
 |n+1,i,c,r,q,e=>by
  simp only[CR,GE] at e;cases k:decide (i<(w.in_.Ah.length:Int))<;>rw[k] at e
  ·exact Qj a N 0 q e
  ·rw[tL] at e;obtain⟨x,_,e⟩:=bd e;obtain⟨y,_,e⟩:=bd e;cases y with
   |false=>exact Qk a n _ q e
   |true=>
    rw[tL] at e;obtain⟨l,j,e⟩:=bd e;obtain⟨o,_,e⟩:=bd e;obtain⟨g,m,e⟩:=bd e;obtain⟨p,d,e⟩:=bd e;obtain⟨_,_,e⟩:=bd e;obtain⟨_,_,e⟩:=bd e;exact Qk a n _ (q.upd j ((q.at_ j m).fault d)) e
def UA {N:Nat}{w:AN}{y:List (List Int)×List AV}{o:List (List Int)}{j:List Int}:∀(n:Nat) (i:Int) {a:List AT}{r:List (List Int)×List AV×List AT×List Int},No w.b a→CC N w y o j n i a=some r→No w.b r.2.2.1
 |0,_,_,_,_,e=>by cases e
 |n+1,i,a,r,t,e=>by
  simp only[CC,Er] at e;cases k:decide (i<(w.b.E.length:Int))<;>rw[k] at e
  ·cases e;exact t
  ·rw[tL] at e;obtain⟨l,d,e⟩:=bd e;cases m:decide (l.F=3)<;>rw[m] at e
   ·exact UA n _ t e
   ·rw[tL] at e;obtain⟨q,_,e⟩:=bd e;obtain⟨g,p,e⟩:=bd e;obtain⟨_,_,e⟩:=bd e;obtain⟨v,_,e⟩:=bd e;obtain⟨s,c,e⟩:=bd e;obtain⟨_,_,e⟩:=bd e;obtain⟨_,_,e⟩:=bd e;exact UA n _ (t.upd d ((t.at_ d p).siphon c)) e
def W6 {N:Nat}{w:AN}{y:List (List Int)×List AV}:∀(n:Nat) (i:Int) {o:List (List Int)}{a:List Int}{r:List (List Int)×List AV×List AT×List Int},No w.b w.s.M→CS N w y (Ce N w y) n i o a=some r→No w.b r.2.2.1
 |0,_,_,_,_,_,e=>by cases e
 |n+1,i,o,a,r,d,e=>by
  simp only[CS] at e;cases c:decide (i<(w.b.A.length:Int))<;>rw[c] at e
  ·exact UA N 0 d e
  ·rw[tL] at e
   iterate 12 (replace e:=(bd e).choose_spec.2)
   exact W6 n _ d e
def UI (b:AF) (rem:List Int):Prop:=rem.length=b.A.length∧∀(k:Nat) p m,b.A[k]? =some p→rem[k]? =some m→0≤m∧m≤max 0 (p.S-1)
def UI.upd {b:AF}{rem:List Int}(n:UI b rem) {i:Int}{p:EW}{m:Int}(d:ix b.A i=some p) (g:0≤m∧m≤max 0 (p.S-1)):UI b (upd rem i m):=by
 obtain⟨h0,d⟩:=Et d;refine⟨by rw[MC];exact n.1,λk j l c a=>?_⟩;unfold Go.Proofs.YtedgiljmffngoaaGreat.upd at a;by_cases e:i.toNat=k
 ·rw[e] at d a;rw[d] at c;cases c;rw[xA (by rw[n.1];exact(uB.1 d).1)] at a;cases a;exact g
 ·rw[wR e] at a;exact n.2 k j l c a
def X0 {N:Nat}(g:18446744073709551616<N) {a:EW}(hd:0≤a.S∧a.S≤1125899906842624) {v m:Int}{y:Int×Int}(e:Id N a v m=some y):0≤y.2∧y.2≤max 0 (a.S-1):=by
 unfold Id at e;rw[OK g,tJ] at e;unfold nU at e;split at e
 ·rename_i i;obtain⟨_,_,⟨j,k⟩,_⟩:=i;have l:=Int.emod_nonneg (v*a.Y) (show a.S≠0 by omega);have o:=Int.emod_lt_of_pos (v*a.Y) (show 0<a.S by omega);have d:∀b,0≤b→b<a.S→Gy N a (v*a.Y/a.S,v*a.Y%a.S,true) b=some y→0≤y.2∧y.2≤max 0 (a.S-1):=λb h0 p e=>by
   unfold Gy at e;simp only at e;rw[Cv (n:=v*a.Y%a.S+b) (by omega) (by omega)] at e;by_cases q:v*a.Y%a.S+b<a.S
   ·rw[uQ q,tL] at e;cases e;show 0≤v*a.Y%a.S+b∧v*a.Y%a.S+b≤_
    omega
   ·rw[tY q,tM,Cv (n:=v*a.Y%a.S+b-a.S) (by omega) (by omega)] at e;cases e;show 0≤v*a.Y%a.S+b-a.S∧v*a.Y%a.S+b-a.S≤_
    omega
  simp only[uP,tM] at e;cases c:(decide (0≤m)&&decide (m<a.S))<;>rw[c] at e
  ·exact d 0 (by omega) (by omega) e
  ·simp only[tO,uF] at c;exact d m c.1 c.2 e
 ·simp only[Bool.not_false,tL] at e;cases e;show(0:Int)≤0∧(0:Int)≤_
  omega
def TK {N:Nat}{w:AN}{p:Int}{c:List AD}{kj:List (List Int)→List Int→List AK→List AV→Option (List (List Int)×List Int×List Int×List AK×List AV)}:∀(n:Nat) (i:Int) {o:List (List Int)}{out:List Int}{a:List AK}{b:List AV}{r},Ck N w p c kj n i o out a b=some r→∃o out a b,kj o out a b=some r
 |0,_,_,_,_,_,_,e=>by cases e
 |n+1,i,o,out,a,b,r,e=>by
  simp only[Ck] at e;cases d:decide (i<(c.length:Int))<;>rw[d] at e
  ·exact⟨_,_,_,_,e⟩
  ·rw[tL] at e
   iterate 3 (replace e:=(bd e).choose_spec.2)
   exact TK n _ e
def TN {N:Nat}{w:AN}{p:Int}{a:EW}{o:List (List Int)}{out:List Int}{b:List AK}{c:List AV}{rem:List Int}{r}(e:Cd N w p a o out b c rem=some r):r.2.1=rem:=by
 unfold Cd at e;obtain⟨_,_,e⟩:=bd e;obtain⟨_,_,e⟩:=bd e;obtain⟨v,_,e⟩:=bd e;cases d:decide (0<BD (v-a.Au))<;>rw[d] at e
 ·cases e;rfl
 ·rw[tL] at e;obtain⟨_,_,e⟩:=bd e;obtain⟨_,_,e⟩:=bd e;cases e;rfl
def V0 {N:Nat}(j:18446744073709551616<N) {w:AN}(c:∀p∈w.b.A,Hg w.b p) {p:Int}{r}(u:UI w.b w.s.L) (e:Ga N w p=some r):UI w.b r.2.1:=by
 unfold Ga at e;obtain⟨d,a,e⟩:=bd e;obtain⟨_,_,e⟩:=bd e;obtain⟨_,_,e⟩:=bd e;obtain⟨q,_,e⟩:=bd e;obtain⟨o,out,k,l,e⟩:=TK N 0 e;have hd:=(c _ (vM (Et a).2)).den;unfold I3 at hd;unfold Ew at e;cases m:decide (d.S≠0)<;>rw[m] at e
 ·rw[TN e];exact u
 ·rw[tL] at e;obtain⟨_,_,e⟩:=bd e;obtain⟨_,_,e⟩:=bd e;obtain⟨_,_,e⟩:=bd e;obtain⟨_,_,e⟩:=bd e;obtain⟨y,n,e⟩:=bd e;obtain⟨_,_,e⟩:=bd e;obtain⟨_,_,e⟩:=bd e;obtain⟨_,_,e⟩:=bd e;obtain⟨_,_,e⟩:=bd e;obtain⟨t,_,e⟩:=bd e;have h0:UI w.b (upd w.s.L p 0):=u.upd a (by omega);have i:∀rem,EA N w p d o out k l y (Cd N w p d) rem=some r→r.2.1=rem:=λrem e=>by
   unfold EA at e;obtain⟨_,_,e⟩:=bd e;obtain⟨_,_,e⟩:=bd e;exact TN e
  cases g:decide (y.1≤t)<;>rw[g] at e
  ·rw[i _ e];exact h0
  ·rw[tL] at e;obtain⟨_,_,e⟩:=bd e;obtain⟨_,_,e⟩:=bd e;rw[i _ e];exact h0.upd a (X0 j hd n)
def Uj {N:Nat}(j:18446744073709551616<N) {b:AF}(a:∀p∈b.A,Hg b p) {in_:Ch}{s:AE}{y z}:∀(n:Nat) (i:Int) {o:List (List Int)}{c out:List Int}{d:List AK}{g:List AV}{r},UI b c→EQ N b in_ s y z (ER N s y z) n i o c out d g=some r→UI b r.1.L∧r.1.M=z.2.2.1
 |0,_,_,_,_,_,_,_,_,e=>by cases e
 |n+1,i,o,c,out,d,g,r,m,e=>by
  simp only[EQ] at e;cases k:decide (i<(b.A.length:Int))<;>rw[k] at e
  ·rw[tM] at e;unfold ER at e;obtain⟨_,e⟩:=LA e;cases e;exact⟨m,rfl⟩
  ·rw[tL] at e;obtain⟨x,l,e⟩:=bd e;exact Uj j a n _ (V0 j (w:=(⟨b,in_,(⟨s.B,o,c,z.2.1,z.2.2.1,y.2.1,out⟩:AE),d,z.2.2.2,g⟩:AN)) a m l) e
def cF {N:Nat}(u:18446744073709551616<N) {b:AF}(m:H1 b) (c:∀p∈b.A,Hg b p) (v:SY b) {s:AE}(d:YN b s) {in_:Ch}{r}(e:GF N b s in_=some r):UI b r.1.L∧No b r.1.M:=by
 have C:=m.pl;have Q:=m.li;have U:=m.own;have a:=d.rg.x;have D:No b s.M:=⟨a.gates,λk l g n o=>⟨(d.rg.gts k l g n o).1,(d.rg.gts k l g n o).2,d.opn k l g n o⟩⟩
 unfold GF at e;rw[TV (by omega) (by have:=a.own.len;omega) (λx q=>by have:=(a.own.all x q).len;omega) (by have:=a.rem;omega) (by have:=a.gates;omega) (by have:=a.inn;omega) (by have:=a.out;omega),tJ] at e;obtain⟨_,e⟩:=LA e;obtain⟨t,i,e⟩:=bd e;obtain⟨V,_,e⟩:=bd e;obtain⟨y,_,e⟩:=bd e;obtain⟨z,j,e⟩:=bd e;have F:No b t:=by
  unfold GZ at i;exact Qk (w:=(⟨b,in_,s,([]:List AK),(List.replicate ((b.A.length:Int)).toNat (0:Int)),([]:List AV)⟩:AN)) v N 0 D i
 have H:No b z.2.2.1:=by
  unfold Ex at j;obtain⟨_,_,j⟩:=bd j;exact W6 (w:=(⟨b,in_,(⟨s.B,y.1,s.L,s.G,t,y.2.1,s.K⟩:AE),y.2.2,(List.replicate ((b.A.length:Int)).toNat (0:Int)),([]:List AV)⟩:AN)) N 0 F j
 obtain⟨I,J⟩:=Uj u c N 0 ⟨a.rem,d.rem⟩ e;exact⟨I,by rw[J];exact H⟩
def TI (H:Int) (p:Nat):List AD→List Int→List AK
 |[],_=>[]
 |e::es,x=>match e.take x with
  |some y=>(if y.1.sum≤0 then [] else [(⟨H,(p:Int),e.to_,e.way,y.1⟩:AK)])++TI H p es y.2
  |none=>TI H p es x
def YU:List AD→List Int→List Int
 |[],x=>x
 |e::es,x=>match e.take x with
  |some y=>YU es y.2
  |none=>YU es x
def Ra (H:Int) (p:Nat):∀(a b:List AD) (x:List Int),TI H p (a++b) x=TI H p a x++TI H p b (YU a x)
 |[],b,x=>rfl
 |e::a,b,x=>by
  simp only[uV,TI,YU];cases e.take x with
  |none=>exact Ra H p a b x
  |some y=>simp only;rw[Ra H p a b y.2,xU]
def Tv:∀(a b:List AD) (x:List Int),YU (a++b) x=YU b (YU a x)
 |[],b,x=>rfl
 |e::a,b,x=>by
  simp only[uV,YU];cases e.take x with
  |none=>exact Tv a b x
  |some y=>exact Tv a b y.2
def RZ {H:Int}{p:Nat}:∀{es:List AD}{x:List Int}(m:AK),m∈TI H p es x→∃e∈es,m.Ba=e.way∧m.J=(p:Int)
 |[],x,m,a=>by cases a
 |e::es,x,m,a=>by
  simp only[TI] at a;cases g:e.take x with
  |none=>
   rw[g] at a;obtain⟨b,c,d⟩:=RZ (es:=es) m a;exact⟨b,.tail _ c,d⟩
  |some y=>
   rw[g] at a;rcases vC.1 a with a|a
   ·split at a
    ·cases a
    ·rw[vX.1 a];exact⟨e,.head _,rfl,rfl⟩
   ·obtain⟨b,c,d⟩:=RZ (es:=es) m a;exact⟨b,.tail _ c,d⟩
def Ml (b:AF) (p:Nat) (t:Hb):Bool:=decide (t.Ap=(p:Int))&&(decide (0≤t.Bg)&&decide (t.Bg<(b.H.length:Int)))&&decide (0<t.Bd)&&(decide (t.C= -1)||((decide (0≤t.C)&&decide (t.C<(b.A.length:Int)))&&decide ((b.A.getD t.C.toNat default).An=(b.A.getD p default).An)))
def WX (N:Nat) (t:Hb):AD:=⟨t.C,0, -3,λy=>DP N t y⟩
def MD (N:Nat) (b:AF) (p:Nat) (a:List Hb):List AD:=(a.filter (Ml b p)).map (WX N)
def Vd (N:Nat) (b:AF) (p:Nat) {a:List Hb}{k:Nat}(c:k<a.length):MD N b p (a.take (k+1))=MD N b p (a.take k)++if Ml b p a[k] then [WX N a[k]] else []:=by
 unfold MD;rw[wJ c,xN,wM];congr 1;cases d:Ml b p a[k]<;>simp [d]
def S7 (N:Nat) (b:AF) (p:Nat) (a:List Hb):(MD N b p a).length≤a.length:=by
 unfold MD;rw[List.length_map];exact List.length_filter_le _ _
def Ys {N:Nat}(Q:18446744073709551616<N) {w:AN}(U:w.in_.Aa.length≤1000) {p:Nat}(v:p<w.b.A.length):IM N w (p:Int)=some (MD N w.b p w.in_.Aa):=by
 unfold IM;obtain⟨l,D,e⟩:=Em w.in_.Aa.length (λn i l=>CF N w (p:Int) (C6 N) n l i) (C6 N) (λk l=>l=MD N w.b p (w.in_.Aa.take k)) (λn k l q=>by
  simp only[CF];rw[Eg q];rfl) (λn k l F q=>by
  have G:=S7 N w.b p (w.in_.Aa.take k);rw[←F,vT] at G;rw[Vd N w.b p q,←F];simp only[CF,GB];rw[EZ q,tL,BG q,BH (by omega)];simp only[tJ,L3,Fq];generalize w.in_.Aa[k]=x
  have s:w.b.A.getD p default=w.b.A[p]:=by simp [vO,v]
  have c:∀B:Bool,Ml w.b p x=B→∃s',s'=(l++if Ml w.b p x then [WX N x] else [])∧cond B (chk (IX (l.length+1) 32) (CF N w (p:Int) (C6 N) n (l++([(⟨x.C,0,(-3),(λy=>DP N x y)⟩:AD)]:List AD)) ((k+1:Nat):Int))) (CF N w (p:Int) (C6 N) n l ((k+1:Nat):Int))=CF N w (p:Int) (C6 N) n s' ((k+1:Nat):Int):=λB I=>by
   refine⟨_,rfl,?_⟩;rw[I];cases B
   ·simp
   ·rw[tL,H9 (by omega)];rfl
  unfold Ml at c;by_cases d:x.Ap=(p:Int)
  ·cases m:(decide (0≤x.Bg)&&decide (x.Bg<(w.b.H.length:Int)))
   ·simp [d,Ml,m]
   ·by_cases z:0<x.Bd
    ·by_cases a:x.C= -1
     ·have:=c true (by rw[m];simp [d,z,a]);simpa [d,Ml,m,a,show ¬x.Bd≤0 by omega] using this
     ·cases o:(decide (0≤x.C)&&decide (x.C<(w.b.A.length:Int)))
      ·simp [d,Ml,m,a,o,show ¬x.Bd≤0 by omega]
      ·obtain⟨J,K⟩:=QC.1 o;obtain⟨y,t⟩:=Df.ix (l:=w.b.A) J (by omega);have u:w.b.A.getD x.C.toNat default=y:=by
        obtain⟨j,M⟩:∃j:Nat,x.C=(j:Int):=⟨x.C.toNat,by omega⟩
        rw[M] at t K ⊢;rw[BG (by omega)] at t;rw[vR];simpa [vO,show j<w.b.A.length by omega] using t
       by_cases g:y.An=(w.b.A[p]).An
       ·have:=c true (by rw[o,m,u,s];simp [d,z,g]);simpa [d,Ml,m,a,o,t,BG v,g,show ¬x.Bd≤0 by omega] using this
       ·have:=c false (by rw[o,u,s];simp [a,g]);simpa [d,Ml,m,a,o,t,BG v,g,show ¬x.Bd≤0 by omega] using this
    ·simp [d,Ml,m,z,show x.Bd≤0 by omega]
  ·simp [d,Ml]) N 0 [] rfl (by omega) (tU _)
 rw[uZ] at D;rw[←D];exact e
def Yu {N:Nat}(j:18446744073709551616<N) {b:AF}{W:Nat}(c:W≤64) (p:Nat) (d:List Hb):XL b W p (MD N b p d):=λe g=>by
 obtain⟨t,i,rfl⟩:=uX.1 g;have a:=(vL.1 i).2;refine⟨dC (by omega) c t,by show(-3:Int)≠ -4;decide,?_,by show(0:Int)=Pd _ _ (-3);unfold Pd;rw[tQ (by omega),tT rfl]⟩;show t.C= -1∨(0≤t.C∧t.C<b.A.length)
 unfold Ml at a;simp only[tO,uD,uF] at a;omega
def XF (b:AF) (W p:Nat) (l:List AD):Prop:=∀e∈l,nA b W p e∧0≤e.way
def XF.snoc {b:AF}{W p:Nat}{l:List AD}(g:XF b W p l) {e:AD}(c:nA b W p e) (d:0≤e.way):XF b W p (l++[e]):=λx a=>by
 rcases vC.1 a with a|a
 ·exact g x a
 ·rw[vX.1 a];exact⟨c,d⟩
def Zj {N:Nat}(u:18446744073709551616<N) {w:AN}{W:Nat}(Z:W≤64) (hL:w.b.E.length≤1000) (D:∀l∈w.b.E,Js w.b l) (hg:w.s.M.length=w.b.E.length) (aa:w.peaks.length=w.b.A.length) {p:Nat}(hp:p<w.b.A.length):∃l,IP N w (p:Int)=some l∧l.length≤w.b.E.length∧XF w.b W p l:=by
 unfold IP;obtain⟨l,⟨X,z⟩,e⟩:=Em w.b.E.length (λn i l=>Bz N w (p:Int) (C8 N) n l i) (C8 N) (λk l=>l.length≤k∧XF w.b W p l) (λn k l q=>by
  simp only[Bz];rw[Eg q];rfl) (λn k l hi q=>by
  obtain⟨X,z⟩:=hi;have g:=D _ (uE q);have G:k<w.s.M.length:=by omega
  have H:p<w.peaks.length:=by omega
  have v:Pd w.b p (k:Int)=(w.b.E[k]).Q:=by
   unfold Pd;rw[tT ⟨by omega,by omega⟩,vR,R8 q]
  simp only[Bz,HH,DX,G8];rw[EZ q,tL,BG q,tJ,BH (by omega)];simp only[BG G,BG H,tJ];generalize w.b.E[k]=x at g v
  have d:∀(B:Int) (to:Int),(to= -1∨(0≤to∧to<w.b.A.length))→∃s',(s'.length≤k+1∧XF w.b W p s')∧chk (IX (l.length+([(⟨to,x.Q,(k:Int),(λx=>AL N B x)⟩:AD)]:List AD).length) 32) (Bz N w (p:Int) (C8 N) n (l++([(⟨to,x.Q,(k:Int),(λx=>AL N B x)⟩:AD)]:List AD)) ((k+1:Nat):Int))=Bz N w (p:Int) (C8 N) n s' ((k+1:Nat):Int):=λB to c=>by
   rw[H9 (by simp;omega)];exact⟨_,⟨by simp;omega,z.snoc ⟨λy hy=>by obtain⟨t,e,h,_⟩:=Pz u Z B y hy;exact⟨t,e,h⟩,by show(k:Int)≠ -4;omega,c,v.symm⟩ (by show 0≤(k:Int);omega)⟩,rfl⟩
  have j:∀i:Int,0≤i→i<w.b.A.length→∃y,ix w.peaks i=some y:=λi h0 h1=>Df.ix h0 (by omega);obtain⟨f0,I⟩:=j x.J g.fr.1 g.fr.2;cases Y:(decide (x.J=(p:Int))&&decide (x.F≠4))
  ·rw[tM];cases K:decide (x.J=(p:Int))
   ·rw[tM];cases hC:(decide (x.C=(p:Int))&&decide (x.F=4))
    ·exact⟨l,⟨by omega,z⟩,rfl⟩
    ·obtain⟨a,m⟩:=Wc u x f0 w.peaks[p];obtain⟨b,hb⟩:=Rn N 0 a;rw[tL];simp only[I,tJ];rw[m,tJ,hb,tJ];exact d _ _ (.inr g.fr)
   ·have K:=xG K;have h4:x.F=4:=by
     rw[uQ K,Bool.true_and] at Y;simpa using Y
    obtain⟨_,_,_,_,_,c⟩:=g.seep h4;have c:=g.to.resolve_left c;obtain⟨U,o⟩:=j x.C c.1 c.2;obtain⟨a,m⟩:=Wc u x w.peaks[p] U;rw[tL];simp only[o,tJ];rw[m,tJ];exact d _ _ g.to
  ·rw[tL];cases V:decide (x.C≠ -1)
   ·obtain⟨a,m⟩:=Wz u x w.s.M[k] w.peaks[p] 0;rw[tM,m,tJ];exact d _ _ g.to
   ·have V:=xG V;have c:=g.to.resolve_left V;obtain⟨U,o⟩:=j x.C c.1 c.2;obtain⟨a,m⟩:=Wz u x w.s.M[k] w.peaks[p] U;rw[tL];simp only[o,tJ];rw[m,tJ];exact d _ _ g.to) N 0 [] ⟨tX _,λe he=>by cases he⟩ (by omega) (tU _)
 exact⟨l,e,X,z⟩
end Go.Proofs.YtedgiljmffngoaaGreat
