import Derived.Test.YtedgiljmffngoaaGreatPPureEx
import Derived.Test.YtedgiljmffngoaaGreatPPureE2
namespace Go.Proofs.YtedgiljmffngoaaGreat
set_option linter.all false
open Go.RowKit
def sl (N:Nat) (a b:Int):Int:=(Fl N a b).getD 0
def slN {b a q r:Nat}(hd:0<a) (g:b≤a) (c:q=b*1099511627776/a) (d:r=b*1099511627776%a):q≤1099511627776∧b*1099511627776=q*a+r∧r<a:=by
 refine⟨?_,by rw[c,d];exact YQ _ _,by rw[d];exact Ab9 _ hd⟩;rw[c];exact Nat.div_le_of_le_mul (by rw[Acv a];rw[Acv b];exact Nat.mul_le_mul_left _ g)
structure tH (N:Nat) (b:AE) (l:BL):Prop where
 base:J1 b l
 gate:l.G=0→Hq N l.Ag.Az l.Aw=some true∧Hq N l.Aw l.Ag.Ba=some true∧(0≤l.U∧l.U≤64)∧(0≤l.Ad∧l.Ad≤l.U)∧(0≤l.Bc∧l.Bc≤1125899906842624)∧(l.An=0→l.As=0)∧(l.B≠ -1∨l.An=0)
 weir:l.G=1∨l.G=5→0≤l.Bd∧l.Bd≤1125899906842624
 pump:l.G=2→(0≤l.Y∧l.Y≤1125899906842624)∧(1≤l.U∧l.U≤64)∧(0≤l.Ad∧l.Ad≤l.U)
 siph:l.G=3→(0≤l.Ax∧l.Ax≤1125899906842624)∧(0≤l.Ay∧l.Ay≤1125899906842624)∧l.Ay<l.Ax
 seep:l.G=4→(l.An=0→l.As=0)
 none_:l.G≠0→l.G≠2→l.U=0∧l.Ad=0
def YK {a b:Int}(d:UP a b=true):b=0→a=0:=by
 intro c;simp only[UP,Aaa,Aay,Aam] at d;exact d.2.resolve_left λd=>d c
def XI {N:Nat}(t:18446744073709551616<N) {b:AE}{l:BL}(d:J1 b l) (W:FT N l=some true) (a:FQ N l=some true):tH N b l:=by
 have H:=d.kind;have k:l.G≠0→l.G≠2→l.U=0∧l.Ad=0:=by
  intro h0 g;unfold FQ at a;rw[Aan h0,Aaq g] at a;simp only[Bool.not_false,Ack] at a;cases n:(decide (0<(l.Aw.length:Int))||decide (0<(l.Ag.Az.length:Int))||decide (0<(l.Ag.Ba.length:Int))||decide (l.Bc≠0)) with
  |true=>rw[n] at a;cases a
  |false=>
   rw[n,zX] at a;cases i:(decide (l.U≠0)||decide (l.Ad≠0)) with
   |true=>rw[i] at a;cases a
   |false=>
    simp only[Aa2,Aat] at i;exact⟨Decidable.not_not.1 i.1,Decidable.not_not.1 i.2⟩
 unfold FT at W;by_cases k0:l.G=0
 ·obtain⟨n,i,A,I,J⟩:=d.gate k0;obtain⟨K,u⟩:=Qb t l.Ag.Az l.Aw;obtain⟨M,v⟩:=Qb t l.Aw l.Ag.Ba;rw[Aaq k0,zV,QH (by omega) n,QH (by omega) i,QH (by omega) A] at W;simp only[u,v,NA,MT,Qu,zU,Fo,QI] at W;have W:=zZ W;simp only[Aaa,Aay,Aam] at W;obtain⟨⟨⟨⟨⟨⟨⟨⟨⟨_,_⟩,_⟩,o⟩,q⟩,B⟩,C⟩,D⟩,F⟩,s⟩:=W;subst o;subst q;exact⟨d,λ_=>⟨u,v,Kf B,Kf C,LH D,YK F,s⟩,λW=>by omega,λW=>by omega,λW=>by omega,λW=>by omega,k⟩
 ·rw[Aan k0,zX] at W;have w:∀c:Bool,(c=true↔l.G=1∨l.G=5)→Dg N l c=some true→tH N b l:=by
   intro c x W;unfold Dg at W;simp only[NA,MT,Qu,zU,Fo,QI] at W;cases c
   ·have Q:¬(l.G=1∨l.G=5):=λW=>by have:=x.2 W;cases this
    rw[zX] at W;by_cases y:l.G=2
    ·rw[Aaq y,zV] at W;have W:=zZ W;simp only[Aaa] at W;obtain⟨⟨m,g⟩,j⟩:=W;exact⟨d,λW=>by omega,λW=>by omega,λ_=>⟨LH m,Kf g,Kf j⟩,λW=>by omega,λW=>by omega,k⟩
    ·rw[Aan y,zX] at W;by_cases z:l.G=3
     ·rw[Aaq z,zV] at W;have W:=zZ W;simp only[Aaa,Aam] at W;obtain⟨⟨⟨⟨m,g⟩,j⟩,o⟩,q⟩:=W;exact⟨d,λW=>by omega,λW=>by omega,λW=>by omega,λ_=>⟨LH j,LH o,q⟩,λW=>by omega,k⟩
     ·rw[Aan z,zX] at W;have W:=zZ W;simp only[Aaa,Aam] at W;obtain⟨⟨⟨m,g⟩,j⟩,o⟩:=W;exact⟨d,λW=>by omega,λW=>by omega,λW=>by omega,λW=>by omega,λ_=>YK j,k⟩
   ·have V:=x.1 rfl;rw[zV] at W;have W:=zZ W;simp only[Aaa] at W;obtain⟨⟨m,g⟩,j⟩:=W;exact⟨d,λW=>by omega,λ_=>LH m,λW=>by omega,λW=>by omega,λW=>by omega,k⟩
  by_cases p:l.G=1
  ·rw[Aaq p,zV] at W;exact w true (by simp [p]) W
  ·rw[Aan p,zX] at W;exact w _ (by simp [p]) W
def ZW {N:Nat}(c:18446744073709551616<N) {b:AE}(d:II b) (p:∀l∈b.F,J1 b l) (z:Ev N b=some true):∀l∈b.F,tH N b l:=by
 have v:=d.pl;have w:=d.li;unfold Ev at z;rcases I3 b.F.length (Cd N b (DM N)) (DM N) (λi=>∀l,b.F[i]? =some l→tH N b l) (λn k z=>by
  simp only[Cd];rw[E5 z];rfl) (λn k z=>by
  simp only[Cd];obtain⟨x,g,y⟩:=US c b.F[k];obtain⟨q,j⟩:=T4 N b.F[k];rw[Ef z,zV,BM z];simp only[zU,NA,Qs N _ (show b.A.length<4611686018427387904 by omega),RK N b _ _ (show b.A.length<4611686018427387904 by omega),g,j,Fo,LP,BK (show k<4611686018427387904 by omega)];generalize m:(_|| !q)=B
  cases B
  ·simp only[Aa2,Ach] at m;obtain⟨⟨_,s⟩,t⟩:=m;subst s;subst t;refine .inr ⟨λl a=>?_,rfl⟩;have:l=b.F[k]:=by simpa [z] using a.symm
   rw[this];exact XI c (p _ (Aap z)) g j
  ·exact .inl rfl) N 0 (by omega) (Aad _) with u|⟨hp,_⟩
 ·rw[show Cd N b (DM N) N 0=some false from u] at z;cases z
 ·intro l a;obtain⟨i,o,rfl⟩:=Adx.1 a;exact hp i (Aad _) o _ (by simp [o])
def Holds (n:Nat) (s:List Int) (g:Nat→Int):Prop:=s.length=n∧∀i,i<n→s[i]? =some (g i)
def Holds.ix {n:Nat}{s:List Int}{g:Nat→Int}(c:Holds n s g) {a:Int}(h0:0≤a) (b:a<n):ix s a=some (g a.toNat):=by
 unfold Go.Proofs.YtedgiljmffngoaaGreat.ix;rw[zY (by omega)];exact c.2 _ (by omega)
def Holds.upd {n:Nat}{s:List Int}{g:Nat→Int}(j:Holds n s g) {a:Int}(h0:0≤a) (c:a<n) (v:Int):Holds n (upd s a v) (λi=>if (i:Int)=a then v else g i):=by
 refine⟨by rw[LV,j.1],λi b=>?_⟩;unfold Go.Proofs.YtedgiljmffngoaaGreat.upd;rw[List.getElem?_set];have d:=j.1;show _=some (if (i:Int)=a then v else g i)
 by_cases e:(i:Int)=a
 ·rw[Aab (by omega),Aab (by omega),Aab e]
 ·rw[zY (by omega),zY e];exact j.2 i b
def Holds.congr {n:Nat}{s:List Int}{g a:Nat→Int}(c:Holds n s g) (e:∀i,i<n→g i=a i):Holds n s a:=⟨c.1,λi b=>(c.2 i b).trans (zW some (e i b))⟩
def zF (s:AF) (k:Nat):AQ:=s.O.getD k default
structure fA (W:Nat) (out:List Int) (ms:List AI) (sn:List AO) (M:Nat):Prop where
 out:out.length=W
 mv:ms.length≤M
 sn:sn.length≤M
def fA.next {b:AE}{H:Int}{N W p M:Nat}{o j:List (List Int)}{out a:List Int}{ms d:List AI}{i g:List AO}{l:List AI}(n:fA W out ms i M) (k:VQ b H N W p o out ms i j a d g l) {c:Nat}(m:l.length≤c):fA W a d g (M+c):=
 ⟨k.ol,by rw[k.ms_,Aas];have:=n.mv;omega,by
  rw[k.sn_,Aas];have:=List.length_filterMap_le (Kl b H) l;have:=n.sn;omega⟩
def fA.le {W M a:Nat}{out:List Int}{ms:List AI}{b:List AO}(d:fA W out ms b M) (c:M≤a):fA W out ms b a:=⟨d.out,Abk d.mv c,Abk d.sn c⟩
def U2 {α}{c:Prop}[Decidable c] {x:α}:(if c then [] else [x]).length≤1:=by split<;>simp
structure yN (b:AE) (s:AF):Prop where
 own:Ie b.A.length b.I.length s.E
 que:QX b.A.length b.I.length s.H
 tot:E4 s.E+GX s.H≤1125899906842624
 rem:s.M.length=b.A.length
 gates:s.O.length=b.F.length
 inn:s.N.length=b.I.length
 inn0:∀x∈s.N,0≤x
 inns:s.N.sum≤1152921504606846976
 out:s.L.length=b.I.length
structure wR (b:AE) (H:Int) (N W k:Nat) (o:List (List Int)) (out:List Int) (ms:List AI) (o':List (List Int)) (out':List Int) (ms':List AI) (sn':List AO) (l:List AI):Prop where
 mv:∀m∈l,∃p,p<k∧wQ b H W p m
 ord:l.Pairwise λa c=>a.D≤c.D
 ms_:ms'=ms++l
 own:o'=QA o l
 out_:out'=RY N out l
 sn_:sn'=l.filterMap (Kl b H)
 val:Q4 l o
 ox:Ie b.A.length W o'
 ol:out'.length=W
 tot:E4 o'+KT l=E4 o
def wR.next {b:AE}{H:Int}{N W k:Nat}{o y t:List (List Int)}{out g d:List Int}{ms u n:List AI}{v s:List AO}{l z:List AI}(G:wR b H N W k o out ms y g u v l) (q:VQ b H N W k y g u v t d n s z):wR b H N W (k+1) o out ms t d n s (l++z):=
 ⟨λm w=>(Aa0.1 w).elim (λw=>by obtain⟨p,A,x⟩:=G.mv m w;exact⟨p,by omega,x⟩) (λw=>⟨k,by omega,q.mv m w⟩),
  List.pairwise_append.2 ⟨G.ord,Adu.2 λi j B C _=>by
  rw[(q.mv _ (Aap B)).fr,(q.mv _ (Aap C)).fr];exact Aa6 _,λa D c F=>by
  obtain⟨p,A,x⟩:=G.mv a D;rw[x.fr,(q.mv c F).fr];omega⟩,
  by rw[q.ms_,G.ms_,Ac6],by rw[q.own,G.own];unfold QA;rw[Ada],by rw[q.out_,G.out_];unfold RY;rw[Ada],by rw[q.sn_,G.sn_,List.filterMap_append],G.val.app (by rw[←G.own];exact q.val),q.ox,q.ol,by rw[WD];have:=G.tot;have:=q.tot;omega⟩
def UG {N:Nat}(a:1000000<N) (p:List Int) (W:Nat):∃v,Jt N p (W:Int)=some v∧(v=true→PX W p∧W≤16):=by
 unfold Jt;cases b:((decide (0≤(W:Int))&&decide ((W:Int)≤16))&&decide ((p.length:Int)=(W:Int)))
 ·exact⟨_,rfl,λd=>by cases d⟩
 ·simp only[Aaa,Aam] at b;obtain⟨v,c,k⟩:=ZM a (p:=p) (by omega);rw[zV,c];exact⟨_,rfl,λd=>⟨⟨by omega,(k d).1,(k d).2⟩,by omega⟩⟩
def Vp {N:Nat}(q:1000000<N) {l:List Int}(t:l.length≤1000) {m:Int}(d:0≤m∧m≤2305843009213693952):∃r,Ii N l m=some r∧(r.2=true→(∀x∈l,0≤x)∧l.sum≤m∧r.1=l.sum):=by
 unfold Ii;rcases M9 l.length (λn i s=>FW N l m (HQ N) n s i) (HQ N) (some (0,false)) (λk s=>(∀x∈l.take k,0≤x)∧s=(l.take k).sum∧s≤m∧0≤s) (λn k s a=>by
  simp only[FW];rw[E5 a];rfl) (λn k s g a=>by
  obtain⟨b,c,j,o⟩:=g;simp only[FW];rw[Ef a,zV,BM a,zU,BK (by omega),C7 (n:=m-s) (by omega) (by omega)];cases p:(decide (l[k]<0)||decide (m-s<l[k]))
  ·simp only[Aa2,Aat] at p;rw[zX,C7 (n:=s+l[k]) (by omega) (by omega)];exact .inr ⟨_,⟨LW a b (by omega),by rw[Kj a,c],by omega,by omega⟩,rfl⟩
  ·exact .inl rfl) N 0 0 ⟨by simp,rfl,d.1,Aa6 _⟩ (by omega) (Aad _) with e|⟨s,⟨b,c,j,o⟩,e⟩
 ·exact⟨_,e,λu=>by cases u⟩
 ·rw[Aa9] at b c;exact⟨_,e,λ_=>⟨b,by omega,c⟩⟩
def ZV {N:Nat}(j:1000000<N) (b:AE) (s:AF) (W:s.E.length≤1000) (X:s.H.length≤100000):∃r,J5 N b s=some r∧(r.2=true→(∀x∈s.E,PX b.I.length x)∧(∀l∈s.H,(PX b.I.length l.K∧0≤l.B∧l.B<b.A.length)∧s.C≤l.Ao∧0<l.K.sum)∧r.1=E4 s.E+GX s.H∧r.1≤1125899906842624):=by
 unfold J5;rcases M9 s.E.length (λn i t=>E6 N b s (E7 N b s) n t i) (E7 N b s) (some (0,false)) (λk t=>(∀x∈s.E.take k,PX b.I.length x)∧t=E4 (s.E.take k)∧0≤t∧t≤1125899906842624) (λn k t a=>by
  simp only[E6];rw[E5 a];rfl) (λn k t q a=>by
  obtain⟨m,w,F,G⟩:=q;simp only[E6];obtain⟨v,y,z⟩:=UG j s.E[k] b.I.length;rw[Ef a,zV,BM a,zU,y,zU,BK (by omega)];cases v
  ·exact .inl rfl
  ·obtain⟨c,d⟩:=z rfl;have Q:=c.mv;have U:=c.sum0;rw[Abo,zX,c.total j (by omega),zU,C7 (n:=t+(s.E[k]).sum) (by omega) (by omega)];by_cases g:1125899906842624<t+(s.E[k]).sum
   ·rw[Aaq g];exact .inl rfl
   ·rw[Aan g];exact .inr ⟨_,⟨LW a m c,by rw[NZ a,w],by omega,by omega⟩,rfl⟩) N 0 0 ⟨by simp,rfl,Aa6 _,by decide⟩ (by omega) (Aad _) with e|⟨t,⟨m,w,F,G⟩,e⟩
 ·exact⟨_,e,λZ=>by cases Z⟩
 ·rw[show E6 N b s (E7 N b s) N 0 0=E7 N b s t from e];rw[Aa9] at m w;unfold E7;rcases M9 s.H.length (λn i t=>GE N b s (Hs N) n t i) (Hs N) (some (0,false)) (λk u=>(∀l∈s.H.take k,(PX b.I.length l.K∧0≤l.B∧l.B<b.A.length)∧s.C≤l.Ao∧0<l.K.sum)∧u=t+GX (s.H.take k)∧0≤u∧u≤1125899906842624) (λn k t a=>by
   simp only[GE];rw[E5 a];rfl) (λn k u q a=>by
   obtain⟨o,D,V,J⟩:=q;simp only[GE];obtain⟨v,y,z⟩:=UG j (s.H[k]).K b.I.length;rw[Ef a,zV,BM a,BK (by omega)];simp only[zU,NW,y,Fo];cases g:cond (decide ((s.H[k]).Ao<s.C)) true (!(decide (0≤(s.H[k]).B)&&decide ((s.H[k]).B<(b.A.length:Int))))
   ·rw[LP,Aa2] at g;obtain⟨M,p⟩:=g;have M:=Adi M;rw[Ach] at p;obtain⟨p,Y⟩:=O2.1 p;cases v
    ·exact .inl rfl
    ·obtain⟨c,d⟩:=z rfl;have Q:=c.mv;have U:=c.sum0;simp only[Abo,zX];rw[c.total j (by omega),zU,C7 (n:=u+(s.H[k]).K.sum) (by omega) (by omega)];cases hd:(decide ((s.H[k]).K.sum≤0)||decide (1125899906842624<u+(s.H[k]).K.sum))
     ·simp only[Aa2,Aat] at hd;exact .inr ⟨_,⟨LW a o ⟨⟨c,p,by omega⟩,by omega,by omega⟩,by rw[MK a,D];omega,by omega,by omega⟩,rfl⟩
     ·exact .inl rfl
   ·exact .inl rfl) N 0 t ⟨by simp,by simp [GX],F,G⟩ (by omega) (Aad _) with d|⟨u,⟨o,D,V,J⟩,d⟩
  ·exact⟨_,d,λZ=>by cases Z⟩
  ·rw[Aa9] at o D;exact⟨_,d,λ_=>⟨m,o,by show u=_;omega,J⟩⟩
structure zJ (b:AE) (s:AF):Prop where
 x:yN b s
 hour:0≤s.C∧s.C≤16777216
 gts:∀(k:Nat) l g,b.F[k]? =some l→s.O[k]? =some g→(0≤g.V∧g.V≤l.U)∧(0≤g.X∧g.X≤l.U)
 at_:∀l∈s.H,s.C≤l.Ao∧0<l.K.sum
 out0:∀x∈s.L,0≤x
 outs:s.L.sum≤s.N.sum+1125899906842624-(E4 s.E+GX s.H)
structure Va (b:AE) (s:AF):Prop where
 rg:zJ b s
 rem:∀(k:Nat) p m,b.A[k]? =some p→s.M[k]? =some m→0≤m∧m≤max 0 (p.T-1)
 opn:∀(k:Nat) l g,b.F[k]? =some l→s.O[k]? =some g→g.Am=true→l.G=5∨l.G=3
def ZA {N:Nat}(K:1000000<N) {b:AE}(Q:II b) (w:∀p∈b.A,H9 b p) (s:AF) (hq:s.H.length≤100000):∃v,Jm N b s=some v∧(v=true→Va b s):=by
 have hP:=Q.pl;have hL:=Q.li;have hW:=Q.own;unfold Jm;generalize hB:(_||decide ((s.L.length:Int)≠(b.I.length:Int)))=B
 cases B
 ·simp only[Aa2,Aat,ne_eq,Decidable.not_not] at hB;obtain⟨⟨⟨⟨⟨⟨b1,b2⟩,b3⟩,b4⟩,b5⟩,b6⟩,b7⟩:=hB;rw[zX];rcases M9 b.A.length (λn i (_:Unit)=>Fu N b s (Fw N b s) n i) (λ_=>Fw N b s) (some false) (λi _=>∀(k:Nat) p m,k<i→b.A[k]? =some p→s.M[k]? =some m→0≤m∧m≤max 0 (p.T-1)) (λn k t c=>by
   simp only[Fu];rw[E5 c];rfl) (λn k t W c=>by
   simp only[Fu];have y:k<s.M.length:=by omega
   have hd:=(w _ (Aap c)).den;unfold JD at hd;rw[Ef c,zV,BM c,BM y,BK (by omega)];simp only[zU,Fo,LP];rw[C7 (n:=(b.A[k]).T-1) (by omega) (by omega)];cases J:(decide (s.M[k]<0)||decide (max 0 ((b.A[k]).T-1)<s.M[k]))
   ·simp only[Aa2,Aat] at J;refine .inr ⟨(),λj p m hj q z=>?_,rfl⟩;by_cases d:j=k
    ·subst d;rw[Aao c] at q;rw[Aao y] at z;cases q;cases z;omega
    ·exact W j p m (by omega) q z
   ·exact .inl rfl) N 0 () (λk p m h=>by omega) (by omega) (Aad _) with e|⟨_,i1,e⟩
  ·exact⟨_,e,λh=>by cases h⟩
  ·rw[show Fu N b s (Fw N b s) N 0=Fw N b s from e];unfold Fw;rcases M9 b.F.length (λn i (_:Unit)=>Ft N b s (Fv N b s) n i) (λ_=>Fv N b s) (some false) (λi _=>∀(k:Nat) l g,k<i→b.F[k]? =some l→s.O[k]? =some g→((0≤g.V∧g.V≤l.U)∧(0≤g.X∧g.X≤l.U))∧(g.Am=true→l.G=5∨l.G=3)) (λn k t c=>by
    simp only[Ft];rw[E5 c];rfl) (λn i t W c=>by
    simp only[Ft];have y:i<s.O.length:=by omega
    rw[Ef c,zV,BM c,BM y,BK (by omega)];simp only[zU];cases J:(((decide ((s.O[i]).V<0)||decide ((b.F[i]).U<(s.O[i]).V))||decide ((s.O[i]).X<0))||decide ((b.F[i]).U<(s.O[i]).X))
    ·simp only[Aa2,Aat] at J;obtain⟨⟨⟨c1,c2⟩,c3⟩,c4⟩:=J;rw[zX];cases Y:(((s.O[i]).Am&&decide ((b.F[i]).G≠5))&&decide ((b.F[i]).G≠3))
     ·refine .inr ⟨(),λk l g ae a o=>?_,rfl⟩;by_cases d:k=i
      ·subst d;rw[Aao c] at a;rw[Aao y] at o;cases a;cases o;refine⟨⟨⟨by omega,by omega⟩,by omega,by omega⟩,λZ=>?_⟩;rw[Z,Ack,Ady] at Y;simp only[Aat,ne_eq,Decidable.not_not] at Y;exact Y
      ·exact W k l g (by omega) a o
     ·exact .inl rfl
    ·exact .inl rfl) N 0 () (λk l g h=>by omega) (by omega) (Aad _) with e|⟨_,i2,e⟩
   ·exact⟨_,e,λh=>by cases h⟩
   ·rw[show Ft N b s (Fv N b s) N 0=Fv N b s from e];unfold Fv;obtain⟨r,er,k1⟩:=ZV K b s (by omega) hq;rw[er,zU];cases aa:r.2
    ·exact⟨_,rfl,λh=>by cases h⟩
    ·obtain⟨k1,k2,k3,k4⟩:=k1 aa;have C:Ie b.A.length b.I.length s.E:=⟨by omega,k1⟩
     have D:QX b.A.length b.I.length s.H:=λl a=>(k2 l a).1;have af:=C.sum0;have ab:=(GZ D 0).2;rw[Abv,show GX ([]:List AO)=0 from rfl] at ab;obtain⟨u,hu,ku⟩:=Vp K (l:=s.N) (by omega) (m:=1152921504606846976) (by decide);rw[Abo,zX,hu,zU];cases ac:u.2
     ·exact⟨_,rfl,λh=>by cases h⟩
     ·obtain⟨u1,u2,u3⟩:=ku ac;have u0:=Jz u1;rw[C7 (n:=u.1+1125899906842624) (by omega) (by omega),C7 (n:=u.1+1125899906842624-r.1) (by omega) (by omega)];obtain⟨x,hx,kx⟩:=Vp K (l:=s.L) (by omega) (m:=u.1+1125899906842624-r.1) ⟨by omega,by omega⟩;rw[Abo,zX,hx,zU];refine⟨_,rfl,λad=>?_⟩;obtain⟨x1,x2,x3⟩:=kx ad;exact⟨⟨⟨C,D,by omega,by omega,by omega,by omega,u1,u2,by omega⟩,⟨by omega,by omega⟩,λk l g a o=>(i2 k l g (Aai.1 a).1 a o).1,λl a=>(k2 l a).2,x1,by omega⟩,λk p m q z=>i1 k p m (Aai.1 q).1 q z,λk l g a o=>(i2 k l g (Aai.1 a).1 a o).2⟩
 ·exact⟨_,rfl,λh=>by cases h⟩
structure Wl (l:BL) (g:AQ):Prop where
 pos:0≤g.V∧g.V≤l.U
 tgt:0≤g.X∧g.X≤l.U
 opn:g.Am=true→l.G=5∨l.G=3
def OC (b:AE) (a:List AQ):Prop:=a.length=b.F.length∧∀(k:Nat) l g,b.F[k]? =some l→a[k]? =some g→Wl l g
def Tf (b:AE):Prop:=∀l∈b.F,(0≤l.U∧l.U≤64)∧0≤l.Ad∧l.Ad≤l.U
def OC.at_ {b:AE}{a:List AQ}(j:OC b a) {i:Int}{l:BL}{g:AQ}(c:ix b.F i=some l) (d:ix a i=some g):Wl l g:=j.2 _ _ _ (Dy c).2 (Dy d).2
def OC.upd {b:AE}{j:List AQ}(p:OC b j) {i:Int}{l:BL}{g:AQ}(d:ix b.F i=some l) (m:Wl l g):OC b (upd j i g):=by
 obtain⟨h0,d⟩:=Dy d;refine⟨by rw[MV];exact p.1,λk n o c a=>?_⟩;unfold Go.Proofs.YtedgiljmffngoaaGreat.upd at a;by_cases e:i.toNat=k
 ·rw[e] at d a;rw[d] at c;cases c;rw[Acm (by rw[p.1];exact(Aai.1 d).1)] at a;cases a;exact m
 ·rw[Acd e] at a;exact p.2 k n o c a
def Wl.fault {N:Nat}{l:BL}{g a:AQ}{k:Int}(m:Wl l g) (e:Hi N l g k=some a):Wl l a:=by
 have d:∀c:Bool,Gu N l g k (F8 N g) c=some a→Wl l a:=λc e=>by
  unfold Gu at e;cases c
  ·cases e;exact⟨m.pos,m.tgt,m.opn⟩
  ·by_cases b:l.G=5
   ·rw[Aaq b] at e;cases e;exact⟨m.pos,m.tgt,λ_=> .inl b⟩
   ·rw[Aan b] at e;cases e;exact⟨m.pos,m.tgt,m.opn⟩
 unfold Hi at e;cases h0:decide (k=0)<;>rw[h0] at e
 ·cases i:decide (k=1)<;>rw[i] at e
  ·cases j:decide (k=2)<;>rw[j] at e
   ·exact d (decide (k=3)) e
   ·exact d true e
  ·cases e;exact⟨m.pos,m.tgt,m.opn⟩
 ·cases e;exact⟨m.pos,m.tgt,m.opn⟩
def Wl.aim {N:Nat}{l:BL}{g a:AQ}{t:Int}(c:0≤l.U) (o:Wl l g) (e:I6 N l g t=some a):Wl l a:=by
 obtain⟨x,d,i,n,j⟩:=eY N l g t;have b:a=x:=zZ (e.symm.trans d);have k:a.Am=g.Am:=by
  unfold I6 at e;cases m:decide (l.U≠0)<;>rw[m] at e
  ·cases e;rfl
  ·obtain⟨y,_,e⟩:=bd e;cases e;rfl
 exact⟨by rw[b,i];exact o.pos,by rw[b];exact j c o.tgt.1 o.tgt.2,by rw[k];exact o.opn⟩
def Wl.move {N:Nat}{l:BL}{g a:AQ}(b:(0≤l.U∧l.U≤64)∧0≤l.Ad∧l.Ad≤l.U) (k:Wl l g) (e:Ho N l g=some a):Wl l a:=by
 have i:gM N l g=a:=zZ ((dF N l g).symm.trans e);have c:=(oZ N l g b.1.2 b.2 k.pos k.tgt).1;rw[i] at c;have d:a.X=g.X∧a.Am=g.Am:=by
  unfold Ho at e;cases j:g.Au<;>rw[j] at e
  ·rw[zX] at e;obtain⟨_,_,e⟩:=bd e;obtain⟨_,_,e⟩:=bd e;obtain⟨_,_,e⟩:=bd e;obtain⟨_,_,e⟩:=bd e;cases e;exact⟨rfl,rfl⟩
  ·cases e;exact⟨rfl,rfl⟩
 exact⟨c,by rw[d.1];exact k.tgt,by rw[d.2];exact k.opn⟩
def Wl.siphon {N:Nat}{l:BL}{g b:AQ}{v:Int}(d:Wl l g) (e:HG N l g v=some b):Wl l b:=by
 unfold HG at e;by_cases a:l.G=3
 ·rw[show decide (l.G≠3)=false by simp [a],zX] at e;cases c:decide (l.Ax≤v)<;>rw[c] at e
  ·cases hd:decide (v≤l.Ay)<;>rw[hd] at e<;>cases e
   ·exact⟨d.pos,d.tgt,λ_=> .inr a⟩
   ·exact⟨d.pos,d.tgt,λ_=> .inr a⟩
  ·cases e;exact⟨d.pos,d.tgt,λ_=> .inr a⟩
 ·rw[show decide (l.G≠3)=true by simp [a],zV] at e;cases e;exact d
def UJ {N:Nat}{w:AL}(j:Tf w.b):∀(n:Nat) (i:Int) {a r:List AQ},OC w.b a→DA N w n i a=some r→OC w.b r
 |0,_,_,_,_,e=>by cases e
 |n+1,i,a,r,q,e=>by
  simp only[DA] at e;cases k:decide (i<(w.b.F.length:Int))<;>rw[k] at e
  ·cases e;exact q
  ·rw[zV] at e;obtain⟨l,c,e⟩:=bd e;obtain⟨o,_,e⟩:=bd e;obtain⟨g,m,e⟩:=bd e;obtain⟨p,d,e⟩:=bd e;obtain⟨_,_,e⟩:=bd e;obtain⟨_,_,e⟩:=bd e;exact UJ j n _ (q.upd c ((q.at_ c m).move (j l (Abf (Dy c).2)) d)) e
def Re {N:Nat}{w:AL}(a:Tf w.b):∀(n:Nat) (i:Int) {c r:List AQ},OC w.b c→CW N w (Cv N w) n i c=some r→OC w.b r
 |0,_,_,_,_,e=>by cases e
 |n+1,i,c,r,q,e=>by
  simp only[CW,GG] at e;cases k:decide (i<(w.in_.Aj.length:Int))<;>rw[k] at e
  ·exact UJ a N 0 q e
  ·rw[zV] at e;obtain⟨x,_,e⟩:=bd e;obtain⟨y,_,e⟩:=bd e;cases y with
   |false=>exact Re a n _ q e
   |true=>
    rw[zV] at e;obtain⟨l,d,e⟩:=bd e;obtain⟨o,_,e⟩:=bd e;obtain⟨g,m,e⟩:=bd e;obtain⟨p,j,e⟩:=bd e;obtain⟨_,_,e⟩:=bd e;obtain⟨_,_,e⟩:=bd e;exact Re a n _ (q.upd d ((q.at_ d m).aim (a l (Abf (Dy d).2)).1.1 j)) e
def Rf {N:Nat}{w:AL}(a:Tf w.b):∀(n:Nat) (i:Int) {c r:List AQ},OC w.b c→CX N w (Cw N w) n i c=some r→OC w.b r
 |0,_,_,_,_,e=>by cases e
 |n+1,i,c,r,q,e=>by
  simp only[CX,GH] at e;cases k:decide (i<(w.in_.Ah.length:Int))<;>rw[k] at e
  ·exact Re a N 0 q e
  ·rw[zV] at e;obtain⟨x,_,e⟩:=bd e;obtain⟨y,_,e⟩:=bd e;cases y with
   |false=>exact Rf a n _ q e
   |true=>
    rw[zV] at e;obtain⟨l,j,e⟩:=bd e;obtain⟨o,_,e⟩:=bd e;obtain⟨g,m,e⟩:=bd e;obtain⟨p,d,e⟩:=bd e;obtain⟨_,_,e⟩:=bd e;obtain⟨_,_,e⟩:=bd e;exact Rf a n _ (q.upd j ((q.at_ j m).fault d)) e
def VE {N:Nat}{w:AL}{y:List (List Int)×List AO}{o:List (List Int)}{j:List Int}:∀(n:Nat) (i:Int) {a:List AQ}{r:List (List Int)×List AO×List AQ×List Int},OC w.b a→CL N w y o j n i a=some r→OC w.b r.2.2.1
 |0,_,_,_,_,e=>by cases e
 |n+1,i,a,r,t,e=>by
  simp only[CL,Eg] at e;cases k:decide (i<(w.b.F.length:Int))<;>rw[k] at e
  ·cases e;exact t
  ·rw[zV] at e;obtain⟨l,d,e⟩:=bd e;cases m:decide (l.G=3)<;>rw[m] at e
   ·exact VE n _ t e
   ·rw[zV] at e;obtain⟨q,_,e⟩:=bd e;obtain⟨g,p,e⟩:=bd e;obtain⟨_,_,e⟩:=bd e;obtain⟨v,_,e⟩:=bd e;obtain⟨s,c,e⟩:=bd e;obtain⟨_,_,e⟩:=bd e;obtain⟨_,_,e⟩:=bd e;exact VE n _ (t.upd d ((t.at_ d p).siphon c)) e
def YS {N:Nat}{w:AL}{y:List (List Int)×List AO}:∀(n:Nat) (i:Int) {o:List (List Int)}{a:List Int}{r:List (List Int)×List AO×List AQ×List Int},OC w.b w.s.O→CZ N w y (Cm N w y) n i o a=some r→OC w.b r.2.2.1
 |0,_,_,_,_,_,e=>by cases e
 |n+1,i,o,a,r,d,e=>by
  simp only[CZ] at e;cases c:decide (i<(w.b.A.length:Int))<;>rw[c] at e
  ·exact VE N 0 d e
  ·rw[zV] at e
   iterate 12 (replace e:=(bd e).choose_spec.2)
   exact YS n _ d e
def VK (b:AE) (rem:List Int):Prop:=rem.length=b.A.length∧∀(k:Nat) p m,b.A[k]? =some p→rem[k]? =some m→0≤m∧m≤max 0 (p.T-1)
def VK.upd {b:AE}{rem:List Int}(n:VK b rem) {i:Int}{p:Dw}{m:Int}(d:ix b.A i=some p) (g:0≤m∧m≤max 0 (p.T-1)):VK b (upd rem i m):=by
 obtain⟨h0,d⟩:=Dy d;refine⟨by rw[MV];exact n.1,λk j l c a=>?_⟩;unfold Go.Proofs.YtedgiljmffngoaaGreat.upd at a;by_cases e:i.toNat=k
 ·rw[e] at d a;rw[d] at c;cases c;rw[Acm (by rw[n.1];exact(Aai.1 d).1)] at a;cases a;exact g
 ·rw[Acd e] at a;exact n.2 k j l c a
def ZJ {N:Nat}(g:18446744073709551616<N) {a:Dw}(hd:0≤a.T∧a.T≤1125899906842624) {v m:Int}{y:Int×Int}(e:Ib N a v m=some y):0≤y.2∧y.2≤max 0 (a.T-1):=by
 unfold Ib at e;rw[Oo g,zU] at e;unfold uF at e;split at e
 ·rename_i i;obtain⟨_,_,⟨j,k⟩,_⟩:=i;have l:=Int.emod_nonneg (v*a.Y) (show a.T≠0 by omega);have o:=Int.emod_lt_of_pos (v*a.Y) (show 0<a.T by omega);have d:∀b,0≤b→b<a.T→G6 N a (v*a.Y/a.T,v*a.Y%a.T,true) b=some y→0≤y.2∧y.2≤max 0 (a.T-1):=λb h0 p e=>by
   unfold G6 at e;simp only at e;rw[C7 (n:=v*a.Y%a.T+b) (by omega) (by omega)] at e;by_cases q:v*a.Y%a.T+b<a.T
   ·rw[Aaq q,zV] at e;cases e;show 0≤v*a.Y%a.T+b∧v*a.Y%a.T+b≤_
    omega
   ·rw[Aan q,zX,C7 (n:=v*a.Y%a.T+b-a.T) (by omega) (by omega)] at e;cases e;show 0≤v*a.Y%a.T+b-a.T∧v*a.Y%a.T+b-a.T≤_
    omega
  simp only[Abo,zX] at e;cases c:(decide (0≤m)&&decide (m<a.T))<;>rw[c] at e
  ·exact d 0 (by omega) (by omega) e
  ·simp only[Aaa,Aam] at c;exact d m c.1 c.2 e
 ·simp only[Bool.not_false,zV] at e;cases e;show(0:Int)≤0∧(0:Int)≤_
  omega
def UK {N:Nat}{w:AL}{p:Int}{b:List AD}{kj:List (List Int)→List Int→List AI→List AO→Option (List (List Int)×List Int×List Int×List AI×List AO)}:∀(n:Nat) (i:Int) {o:List (List Int)}{out:List Int}{ms:List AI}{a:List AO}{r},CY N w p b kj n i o out ms a=some r→∃o out ms a,kj o out ms a=some r
 |0,_,_,_,_,_,_,e=>by cases e
 |n+1,i,o,out,ms,a,r,e=>by
  simp only[CY] at e;cases c:decide (i<(b.length:Int))<;>rw[c] at e
  ·exact⟨_,_,_,_,e⟩
  ·rw[zV] at e
   iterate 3 (replace e:=(bd e).choose_spec.2)
   exact UK n _ e
def UN {N:Nat}{w:AL}{p:Int}{a:Dw}{o:List (List Int)}{out:List Int}{ms:List AI}{b:List AO}{rem:List Int}{r}(e:CC N w p a o out ms b rem=some r):r.2.1=rem:=by
 unfold CC at e;obtain⟨_,_,e⟩:=bd e;obtain⟨_,_,e⟩:=bd e;obtain⟨v,_,e⟩:=bd e;cases c:decide (0<A9 (v-a.Av))<;>rw[c] at e
 ·cases e;rfl
 ·rw[zV] at e;obtain⟨_,_,e⟩:=bd e;obtain⟨_,_,e⟩:=bd e;cases e;rfl
def XH {N:Nat}(j:18446744073709551616<N) {w:AL}(c:∀p∈w.b.A,H9 w.b p) {p:Int}{r}(q:VK w.b w.s.M) (e:Eb N w p=some r):VK w.b r.2.1:=by
 unfold Eb at e;obtain⟨d,a,e⟩:=bd e;obtain⟨_,_,e⟩:=bd e;obtain⟨_,_,e⟩:=bd e;obtain⟨n,_,e⟩:=bd e;obtain⟨o,out,ms,k,e⟩:=UK N 0 e;have hd:=(c _ (Abf (Dy a).2)).den;unfold JD at hd;unfold D2 at e;cases l:decide (d.T≠0)<;>rw[l] at e
 ·rw[UN e];exact q
 ·rw[zV] at e;obtain⟨_,_,e⟩:=bd e;obtain⟨_,_,e⟩:=bd e;obtain⟨_,_,e⟩:=bd e;obtain⟨_,_,e⟩:=bd e;obtain⟨y,m,e⟩:=bd e;obtain⟨_,_,e⟩:=bd e;obtain⟨_,_,e⟩:=bd e;obtain⟨_,_,e⟩:=bd e;obtain⟨_,_,e⟩:=bd e;obtain⟨t,_,e⟩:=bd e;have h0:VK w.b (upd w.s.M p 0):=q.upd a (by omega);have i:∀rem,DB N w p d o out ms k y (CC N w p d) rem=some r→r.2.1=rem:=λrem e=>by
   unfold DB at e;obtain⟨_,_,e⟩:=bd e;obtain⟨_,_,e⟩:=bd e;exact UN e
  cases g:decide (y.1≤t)<;>rw[g] at e
  ·rw[i _ e];exact h0
  ·rw[zV] at e;obtain⟨_,_,e⟩:=bd e;obtain⟨_,_,e⟩:=bd e;rw[i _ e];exact h0.upd a (ZJ j hd m)
def Vq {N:Nat}(g:18446744073709551616<N) {b:AE}(a:∀p∈b.A,H9 b p) {in_:Cs}{s:AF}{y z}:∀(n:Nat) (i:Int) {o:List (List Int)}{c out:List Int}{ms:List AI}{d:List AO}{r},VK b c→DV N b in_ s y z (DW N s y z) n i o c out ms d=some r→VK b r.1.M∧r.1.O=z.2.2.1
 |0,_,_,_,_,_,_,_,_,e=>by cases e
 |n+1,i,o,c,out,ms,d,r,l,e=>by
  simp only[DV] at e;cases j:decide (i<(b.A.length:Int))<;>rw[j] at e
  ·rw[zX] at e;unfold DW at e;obtain⟨_,e⟩:=KM e;cases e;exact⟨l,rfl⟩
  ·rw[zV] at e;obtain⟨x,k,e⟩:=bd e;exact Vq g a n _ (XH g (w:=(⟨b,in_,(⟨s.C,o,c,z.2.1,z.2.2.1,y.2.1,out⟩:AF),ms,z.2.2.2,d⟩:AL)) a l k) e
def gZ {N:Nat}(u:18446744073709551616<N) {b:AE}(m:II b) (c:∀p∈b.A,H9 b p) (v:Tf b) {s:AF}(d:Va b s) {in_:Cs}{r}(e:Em N b s in_=some r):VK b r.1.M∧OC b r.1.O:=by
 have B:=m.pl;have K:=m.li;have Q:=m.own;have a:=d.rg.x;have D:OC b s.O:=⟨a.gates,λk l g n o=>⟨(d.rg.gts k l g n o).1,(d.rg.gts k l g n o).2,d.opn k l g n o⟩⟩
 unfold Em at e;rw[UW (by omega) (by have:=a.own.len;omega) (λx q=>by have:=(a.own.all x q).len;omega) (by have:=a.rem;omega) (by have:=a.gates;omega) (by have:=a.inn;omega) (by have:=a.out;omega),zU] at e;obtain⟨_,e⟩:=KM e;obtain⟨t,i,e⟩:=bd e;obtain⟨U,_,e⟩:=bd e;obtain⟨y,_,e⟩:=bd e;obtain⟨z,j,e⟩:=bd e;have F:OC b t:=by
  unfold Gc at i;exact Rf (w:=(⟨b,in_,s,([]:List AI),(List.replicate ((b.A.length:Int)).toNat (0:Int)),([]:List AO)⟩:AL)) v N 0 D i
 have G:OC b z.2.2.1:=by
  unfold El at j;obtain⟨_,_,j⟩:=bd j;exact YS (w:=(⟨b,in_,(⟨s.C,y.1,s.M,s.H,t,y.2.1,s.L⟩:AF),y.2.2,(List.replicate ((b.A.length:Int)).toNat (0:Int)),([]:List AO)⟩:AL)) N 0 F j
 obtain⟨I,J⟩:=Vq u c N 0 ⟨a.rem,d.rem⟩ e;exact⟨I,by rw[J];exact G⟩
def UI (H:Int) (p:Nat):List AD→List Int→List AI
 |[],_=>[]
 |e::es,x=>match e.take x with
  |some y=>(if y.1.sum≤0 then [] else [(⟨H,(p:Int),e.to_,e.way,y.1⟩:AI)])++UI H p es y.2
  |none=>UI H p es x
def Zo:List AD→List Int→List Int
 |[],x=>x
 |e::es,x=>match e.take x with
  |some y=>Zo es y.2
  |none=>Zo es x
def SV (H:Int) (p:Nat):∀(a b:List AD) (x:List Int),UI H p (a++b) x=UI H p a x++UI H p b (Zo a x)
 |[],b,x=>rfl
 |e::a,b,x=>by
  simp only[Aa4,UI,Zo];cases e.take x with
  |none=>exact SV H p a b x
  |some y=>simp only;rw[SV H p a b y.2,Ac6]
def Uy:∀(a b:List AD) (x:List Int),Zo (a++b) x=Zo b (Zo a x)
 |[],b,x=>rfl
 |e::a,b,x=>by
  simp only[Aa4,Zo];cases e.take x with
  |none=>exact Uy a b x
  |some y=>exact Uy a b y.2
def SU {H:Int}{p:Nat}:∀{es:List AD}{x:List Int}(m:AI),m∈UI H p es x→∃e∈es,m.Ap=e.way∧m.D=(p:Int)
 |[],x,m,a=>by cases a
 |e::es,x,m,a=>by
  simp only[UI] at a;cases g:e.take x with
  |none=>
   rw[g] at a;obtain⟨b,c,d⟩:=SU (es:=es) m a;exact⟨b,.tail _ c,d⟩
  |some y=>
   rw[g] at a;rcases Aa0.1 a with a|a
   ·split at a
    ·cases a
    ·rw[Abi.1 a];exact⟨e,.head _,rfl,rfl⟩
   ·obtain⟨b,c,d⟩:=SU (es:=es) m a;exact⟨b,.tail _ c,d⟩
def M3 (b:AE) (p:Nat) (t:HV):Bool:=decide (t.Ar=(p:Int))&&(decide (0≤t.Bg)&&decide (t.Bg<(b.I.length:Int)))&&decide (0<t.Bb)&&(decide (t.B= -1)||((decide (0≤t.B)&&decide (t.B<(b.A.length:Int)))&&decide ((b.A.getD t.B.toNat default).Ac=(b.A.getD p default).Ac)))
def Xl (N:Nat) (t:HV):AD:=⟨t.B,0, -3,λy=>DN N t y⟩
def MX (N:Nat) (b:AE) (p:Nat) (a:List HV):List AD:=(a.filter (M3 b p)).map (Xl N)
def Wr (N:Nat) (b:AE) (p:Nat) {a:List HV}{k:Nat}(c:k<a.length):MX N b p (a.take (k+1))=MX N b p (a.take k)++if M3 b p a[k] then [Xl N a[k]] else []:=by
 unfold MX;rw[Ab6 c,Ac0,Abt];congr 1;cases d:M3 b p a[k]<;>simp [d]
def RL (N:Nat) (b:AE) (p:Nat) (a:List HV):(MX N b p a).length≤a.length:=by
 unfold MX;rw[List.length_map];exact List.length_filter_le _ _
def Vn {N:Nat}(M:18446744073709551616<N) {w:AL}(Q:w.in_.Z.length≤1000) {p:Nat}(v:p<w.b.A.length):HR N w (p:Int)=some (MX N w.b p w.in_.Z):=by
 unfold HR;obtain⟨l,C,e⟩:=EI w.in_.Z.length (λn i l=>B5 N w (p:Int) (Cu N) n l i) (Cu N) (λk l=>l=MX N w.b p (w.in_.Z.take k)) (λn k l q=>by
  simp only[B5];rw[E5 q];rfl) (λn k l D q=>by
  have F:=RL N w.b p (w.in_.Z.take k);rw[←D,Abl] at F;rw[Wr N w.b p q,←D];simp only[B5,Ej];rw[Ef q,zV,BM q,BK (by omega)];simp only[zU,NW,Fo];generalize w.in_.Z[k]=x
  have s:w.b.A.getD p default=w.b.A[p]:=by simp [Aa5,v]
  have c:∀B:Bool,M3 w.b p x=B→∃s',s'=(l++if M3 w.b p x then [Xl N x] else [])∧cond B (chk (I2 (l.length+1) 32) (B5 N w (p:Int) (Cu N) n (l++([(⟨x.B,0,(-3),(λy=>DN N x y)⟩:AD)]:List AD)) ((k+1:Nat):Int))) (B5 N w (p:Int) (Cu N) n l ((k+1:Nat):Int))=B5 N w (p:Int) (Cu N) n s' ((k+1:Nat):Int):=λB G=>by
   refine⟨_,rfl,?_⟩;rw[G];cases B
   ·simp
   ·rw[zV,JY (by omega)];rfl
  unfold M3 at c;by_cases d:x.Ar=(p:Int)
  ·cases m:(decide (0≤x.Bg)&&decide (x.Bg<(w.b.I.length:Int)))
   ·simp [d,M3,m]
   ·by_cases z:0<x.Bb
    ·by_cases a:x.B= -1
     ·have:=c true (by rw[m];simp [d,z,a]);simpa [d,M3,m,a,show ¬x.Bb≤0 by omega] using this
     ·cases o:(decide (0≤x.B)&&decide (x.B<(w.b.A.length:Int)))
      ·simp [d,M3,m,a,o,show ¬x.Bb≤0 by omega]
      ·obtain⟨H,J⟩:=O2.1 o;obtain⟨y,t⟩:=Df.ix (l:=w.b.A) H (by omega);have u:w.b.A.getD x.B.toNat default=y:=by
        obtain⟨j,K⟩:∃j:Nat,x.B=(j:Int):=⟨x.B.toNat,by omega⟩
        rw[K] at t J ⊢;rw[BM (by omega)] at t;rw[Abh];simpa [Aa5,show j<w.b.A.length by omega] using t
       by_cases g:y.Ac=(w.b.A[p]).Ac
       ·have:=c true (by rw[o,m,u,s];simp [d,z,g]);simpa [d,M3,m,a,o,t,BM v,g,show ¬x.Bb≤0 by omega] using this
       ·have:=c false (by rw[o,u,s];simp [a,g]);simpa [d,M3,m,a,o,t,BM v,g,show ¬x.Bb≤0 by omega] using this
    ·simp [d,M3,m,z,show x.Bb≤0 by omega]
  ·simp [d,M3]) N 0 [] rfl (by omega) (Aad _)
 rw[Aa9] at C;rw[←C];exact e
def aX {N:Nat}(j:18446744073709551616<N) {b:AE}{W:Nat}(c:W≤64) (p:Nat) (d:List HV):XL b W p (MX N b p d):=λe g=>by
 obtain⟨t,i,rfl⟩:=Abg.1 g;have a:=(Abp.1 i).2;refine⟨iW (by omega) c t,by show(-3:Int)≠ -4;decide,?_,by show(0:Int)=Pr _ _ (-3);unfold Pr;rw[zY (by omega),Aab rfl]⟩;show t.B= -1∨(0≤t.B∧t.B<b.A.length)
 unfold M3 at a;simp only[Aaa,Aay,Aam] at a;omega
def XF (b:AE) (W p:Nat) (l:List AD):Prop:=∀e∈l,tA b W p e∧0≤e.way
def XF.snoc {b:AE}{W p:Nat}{l:List AD}(g:XF b W p l) {e:AD}(c:tA b W p e) (d:0≤e.way):XF b W p (l++[e]):=λx a=>by
 rcases Aa0.1 a with a|a
 ·exact g x a
 ·rw[Abi.1 a];exact⟨c,d⟩
def dH {N:Nat}(u:18446744073709551616<N) {w:AL}{W:Nat}(Z:W≤64) (hL:w.b.F.length≤1000) (H:∀l∈w.b.F,J1 w.b l) (hg:w.s.O.length=w.b.F.length) (aa:w.peaks.length=w.b.A.length) {p:Nat}(hp:p<w.b.A.length):∃l,Gd N w (p:Int)=some l∧l.length≤w.b.F.length∧XF w.b W p l:=by
 unfold Gd;obtain⟨l,⟨X,z⟩,e⟩:=EI w.b.F.length (λn i l=>BR N w (p:Int) (CN N) n l i) (CN N) (λk l=>l.length≤k∧XF w.b W p l) (λn k l q=>by
  simp only[BR];rw[E5 q];rfl) (λn k l hi q=>by
  obtain⟨X,z⟩:=hi;have g:=H _ (Aap q);have I:k<w.s.O.length:=by omega
  have J:p<w.peaks.length:=by omega
  have v:Pr w.b p (k:Int)=(w.b.F[k]).Q:=by
   unfold Pr;rw[Aab ⟨by omega,by omega⟩,Abh,TI q]
  simp only[BR,Ek,Cx,Ga];rw[Ef q,zV,BM q,zU,BK (by omega)];simp only[BM I,BM J,zU];generalize w.b.F[k]=x at g v
  have d:∀(C:Int) (to:Int),(to= -1∨(0≤to∧to<w.b.A.length))→∃s',(s'.length≤k+1∧XF w.b W p s')∧chk (I2 (l.length+([(⟨to,x.Q,(k:Int),(λx=>AM N C x)⟩:AD)]:List AD).length) 32) (BR N w (p:Int) (CN N) n (l++([(⟨to,x.Q,(k:Int),(λx=>AM N C x)⟩:AD)]:List AD)) ((k+1:Nat):Int))=BR N w (p:Int) (CN N) n s' ((k+1:Nat):Int):=λC to c=>by
   rw[JY (by simp;omega)];exact⟨_,⟨by simp;omega,z.snoc ⟨λy hy=>by obtain⟨t,e,h,_⟩:=Qe u Z C y hy;exact⟨t,e,h⟩,by show(k:Int)≠ -4;omega,c,v.symm⟩ (by show 0≤(k:Int);omega)⟩,rfl⟩
  have j:∀i:Int,0≤i→i<w.b.A.length→∃y,ix w.peaks i=some y:=λi h0 h1=>Df.ix h0 (by omega);obtain⟨f0,K⟩:=j x.D g.fr.1 g.fr.2;cases Y:(decide (x.D=(p:Int))&&decide (x.G≠4))
  ·rw[zX];cases M:decide (x.D=(p:Int))
   ·rw[zX];cases hC:(decide (x.B=(p:Int))&&decide (x.G=4))
    ·exact⟨l,⟨by omega,z⟩,rfl⟩
    ·obtain⟨a,m⟩:=Xr u x f0 w.peaks[p];obtain⟨b,hb⟩:=So N 0 a;rw[zV];simp only[K,zU];rw[m,zU,hb,zU];exact d _ _ (.inr g.fr)
   ·have M:=Ab8 M;have h4:x.G=4:=by
     rw[Aaq M,Ack] at Y;simpa using Y
    obtain⟨_,_,_,_,_,c⟩:=g.seep h4;have c:=g.to.resolve_left c;obtain⟨U,o⟩:=j x.B c.1 c.2;obtain⟨a,m⟩:=Xr u x w.peaks[p] U;rw[zV];simp only[o,zU];rw[m,zU];exact d _ _ g.to
  ·rw[zV];cases V:decide (x.B≠ -1)
   ·obtain⟨a,m⟩:=YJ u x w.s.O[k] w.peaks[p] 0;rw[zX,m,zU];exact d _ _ g.to
   ·have V:=Ab8 V;have c:=g.to.resolve_left V;obtain⟨U,o⟩:=j x.B c.1 c.2;obtain⟨a,m⟩:=YJ u x w.s.O[k] w.peaks[p] U;rw[zV];simp only[o,zU];rw[m,zU];exact d _ _ g.to) N 0 [] ⟨Aal _,λe he=>by cases he⟩ (by omega) (Aad _)
 exact⟨l,e,X,z⟩
end Go.Proofs.YtedgiljmffngoaaGreat
