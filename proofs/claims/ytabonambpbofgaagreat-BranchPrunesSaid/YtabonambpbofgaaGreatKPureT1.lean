import Derived.Test.YtabonambpbofgaaGreatKPureEx
import Derived.Test.YtabonambpbofgaaGreatKPureE2
namespace Go.Proofs.YtabonambpbofgaaGreat
set_option linter.all false
open Go.RowKit
def sl (N:Nat) (a b:Int):Int:=(Gw N a b).getD 0
def slN {b a q r:Nat}(hd:0<a) (g:b≤a) (c:q=b*1099511627776/a) (d:r=b*1099511627776%a):q≤1099511627776∧b*1099511627776=q*a+r∧r<a:=by
 refine⟨?_,by rw[c,d];exact YT _ _,by rw[d];exact Adn _ hd⟩;rw[c];exact Nat.div_le_of_le_mul (by rw[Ad8 a];rw[Ad8 b];exact Nat.mul_le_mul_left _ g)
structure uN (N:Nat) (b:AF) (l:BB):Prop where
 base:KN b l
 gate:l.F=0→Ic N l.Ad.Aw l.As=some true∧Ic N l.As l.Ad.Ax=some true∧(0≤l.W∧l.W≤64)∧(0≤l.Ag∧l.Ag≤l.W)∧(0≤l.Bb∧l.Bb≤1125899906842624)∧(l.Al=0→l.Aq=0)∧(l.D≠ -1∨l.Al=0)
 weir:l.F=1∨l.F=5→0≤l.Bc∧l.Bc≤1125899906842624
 pump:l.F=2→(0≤l.Y∧l.Y≤1125899906842624)∧(1≤l.W∧l.W≤64)∧(0≤l.Ag∧l.Ag≤l.W)
 siph:l.F=3→(0≤l.Az∧l.Az≤1125899906842624)∧(0≤l.Ba∧l.Ba≤1125899906842624)∧l.Ba<l.Az
 seep:l.F=4→(l.Al=0→l.Aq=0)
 none_:l.F≠0→l.F≠2→l.W=0∧l.Ag=0
def YJ {a b:Int}(d:UG a b=true):b=0→a=0:=by
 intro c;simp only[UG,Abq,Aca,Ab6] at d;exact d.2.resolve_left λd=>d c
def XH {N:Nat}(t:18446744073709551616<N) {b:AF}{l:BB}(d:KN b l) (V:Gc N l=some true) (a:Fe N l=some true):uN N b l:=by
 have H:=d.kind;have k:l.F≠0→l.F≠2→l.W=0∧l.Ag=0:=by
  intro h0 g;unfold Fe at a;rw[Abs h0,Ab3 g] at a;simp only[Bool.not_false,Bool.true_and] at a;cases n:(decide (0<(l.As.length:Int))||decide (0<(l.Ad.Aw.length:Int))||decide (0<(l.Ad.Ax.length:Int))||decide (l.Bb≠0)) with
  |true=>rw[n] at a;cases a
  |false=>
   rw[n,Abk] at a;cases i:(decide (l.W≠0)||decide (l.Ag≠0)) with
   |true=>rw[i] at a;cases a
   |false=>
    simp only[Acd,Ab7] at i;exact⟨Decidable.not_not.1 i.1,Decidable.not_not.1 i.2⟩
 unfold Gc at V;by_cases k0:l.F=0
 ·obtain⟨n,i,A,I,J⟩:=d.gate k0;obtain⟨K,u⟩:=QY t l.Ad.Aw l.As;obtain⟨M,v⟩:=QY t l.As l.Ad.Ax;rw[Ab3 k0,Abj,QH (by omega) n,QH (by omega) i,QH (by omega) A] at V;simp only[u,v,Nr,MV,Qq,Abi,Gy,QI] at V;have V:=Abo V;simp only[Abq,Aca,Ab6] at V;obtain⟨⟨⟨⟨⟨⟨⟨⟨⟨_,_⟩,_⟩,o⟩,q⟩,B⟩,C⟩,D⟩,G⟩,s⟩:=V;subst o;subst q;exact⟨d,λ_=>⟨u,v,LD B,LD C,LK D,YJ G,s⟩,λV=>by omega,λV=>by omega,λV=>by omega,λV=>by omega,k⟩
 ·rw[Abs k0,Abk] at V;have w:∀c:Bool,(c=true↔l.F=1∨l.F=5)→Eb N l c=some true→uN N b l:=by
   intro c x V;unfold Eb at V;simp only[Nr,MV,Qq,Abi,Gy,QI] at V;cases c
   ·have Q:¬(l.F=1∨l.F=5):=λV=>by have:=x.2 V;cases this
    rw[Abk] at V;by_cases y:l.F=2
    ·rw[Ab3 y,Abj] at V;have V:=Abo V;simp only[Abq] at V;obtain⟨⟨m,g⟩,j⟩:=V;exact⟨d,λV=>by omega,λV=>by omega,λ_=>⟨LK m,LD g,LD j⟩,λV=>by omega,λV=>by omega,k⟩
    ·rw[Abs y,Abk] at V;by_cases z:l.F=3
     ·rw[Ab3 z,Abj] at V;have V:=Abo V;simp only[Abq,Ab6] at V;obtain⟨⟨⟨⟨m,g⟩,j⟩,o⟩,q⟩:=V;exact⟨d,λV=>by omega,λV=>by omega,λV=>by omega,λ_=>⟨LK j,LK o,q⟩,λV=>by omega,k⟩
     ·rw[Abs z,Abk] at V;have V:=Abo V;simp only[Abq,Ab6] at V;obtain⟨⟨⟨m,g⟩,j⟩,o⟩:=V;exact⟨d,λV=>by omega,λV=>by omega,λV=>by omega,λV=>by omega,λ_=>YJ j,k⟩
   ·have U:=x.1 rfl;rw[Abj] at V;have V:=Abo V;simp only[Abq] at V;obtain⟨⟨m,g⟩,j⟩:=V;exact⟨d,λV=>by omega,λ_=>LK m,λV=>by omega,λV=>by omega,λV=>by omega,k⟩
  by_cases p:l.F=1
  ·rw[Ab3 p,Abj] at V;exact w true (by simp [p]) V
  ·rw[Abs p,Abk] at V;exact w _ (by simp [p]) V
def Za {N:Nat}(c:18446744073709551616<N) {b:AF}(d:IG b) (p:∀l∈b.C,KN b l) (z:FJ N b=some true):∀l∈b.C,uN N b l:=by
 have v:=d.pl;have w:=d.li;unfold FJ at z;rcases Jw b.C.length (Cd N b (D2 N)) (D2 N) (λi=>∀l,b.C[i]? =some l→uN N b l) (λn k z=>by
  simp only[Cd];rw[Fj z];rfl) (λn k z=>by
  simp only[Cd];obtain⟨x,g,y⟩:=UK c b.C[k];obtain⟨q,j⟩:=Tw N b.C[k];rw[FD z,Abj,BF z];simp only[Abi,Nr,Qo N _ (show b.A.length<4611686018427387904 by omega),RE N b _ _ (show b.A.length<4611686018427387904 by omega),g,j,Gy,Lu,A9 (show k<4611686018427387904 by omega)];generalize m:(_|| !q)=B
  cases B
  ·simp only[Acd,Adz] at m;obtain⟨⟨_,s⟩,t⟩:=m;subst s;subst t;refine .inr ⟨λl a=>?_,rfl⟩;have:l=b.C[k]:=by simpa [z] using a.symm
   rw[this];exact XH c (p _ (Ab2 z)) g j
  ·exact .inl rfl) N 0 (by omega) (Abn _) with u|⟨hp,_⟩
 ·rw[show Cd N b (D2 N) N 0=some false from u] at z;cases z
 ·intro l a;obtain⟨i,o,rfl⟩:=Afb.1 a;exact hp i (Abn _) o _ (by simp [o])
def Holds (n:Nat) (s:List Int) (g:Nat→Int):Prop:=s.length=n∧∀i,i<n→s[i]? =some (g i)
def Holds.ix {n:Nat}{s:List Int}{g:Nat→Int}(c:Holds n s g) {a:Int}(h0:0≤a) (b:a<n):ix s a=some (g a.toNat):=by
 unfold Go.Proofs.YtabonambpbofgaaGreat.ix;rw[Abl (by omega)];exact c.2 _ (by omega)
def Holds.upd {n:Nat}{s:List Int}{g:Nat→Int}(j:Holds n s g) {a:Int}(h0:0≤a) (c:a<n) (v:Int):Holds n (upd s a v) (λi=>if (i:Int)=a then v else g i):=by
 refine⟨by rw[Lx,j.1],λi b=>?_⟩;unfold Go.Proofs.YtabonambpbofgaaGreat.upd;rw[List.getElem?_set];have d:=j.1;show _=some (if (i:Int)=a then v else g i)
 by_cases e:(i:Int)=a
 ·rw[Abm (by omega),Abm (by omega),Abm e]
 ·rw[Abl (by omega),Abl e];exact j.2 i b
def Holds.congr {n:Nat}{s:List Int}{g a:Nat→Int}(c:Holds n s g) (e:∀i,i<n→g i=a i):Holds n s a:=⟨c.1,λi b=>(c.2 i b).trans (Abp some (e i b))⟩
def Aa7 (s:AI) (k:Nat):A4:=s.P.getD k default
structure fY (W:Nat) (out:List Int) (ms:List AX) (sn:List AT) (M:Nat):Prop where
 out:out.length=W
 mv:ms.length≤M
 sn:sn.length≤M
def fY.next {b:AF}{H:Int}{N W p M:Nat}{o m:List (List Int)}{out a:List Int}{i d:List AX}{j g:List AT}{l:List AX}(q:fY W out i j M) (k:VQ b H N W p o out i j m a d g l) {c:Nat}(n:l.length≤c):fY W a d g (M+c):=
 ⟨k.ol,by rw[k.ms_,Acg];have:=q.mv;omega,by
  rw[k.sn_,Acg];have:=List.length_filterMap_le (Md b H) l;have:=q.sn;omega⟩
def fY.le {W M a:Nat}{out:List Int}{b:List AX}{c:List AT}(g:fY W out b c M) (d:M≤a):fY W out b c a:=⟨g.out,Acw g.mv d,Acw g.sn d⟩
def Uv {α}{c:Prop}[Decidable c] {x:α}:(if c then [] else [x]).length≤1:=by split<;>simp
structure Aan (b:AF) (s:AI):Prop where
 own:Js b.A.length b.H.length s.G
 que:QX b.A.length b.H.length s.I
 tot:GH s.G+Hb s.I≤1125899906842624
 rem:s.N.length=b.A.length
 gates:s.P.length=b.C.length
 inn:s.L.length=b.H.length
 inn0:∀x∈s.L,0≤x
 inns:s.L.sum≤1152921504606846976
 out:s.O.length=b.H.length
structure yQ (b:AF) (H:Int) (N W k:Nat) (o:List (List Int)) (out:List Int) (ms:List AX) (o':List (List Int)) (out':List Int) (ms':List AX) (sn':List AT) (l:List AX):Prop where
 mv:∀m∈l,∃p,p<k∧zG b H W p m
 ord:l.Pairwise λa c=>a.M≤c.M
 ms_:ms'=ms++l
 own:o'=R7 o l
 out_:out'=Tm N out l
 sn_:sn'=l.filterMap (Md b H)
 val:RX l o
 ox:Js b.A.length W o'
 ol:out'.length=W
 tot:GH o'+Ls l=GH o
def yQ.next {b:AF}{H:Int}{N W k:Nat}{o y t:List (List Int)}{out g d:List Int}{z u n:List AX}{v s:List AT}{l A:List AX}(I:yQ b H N W k o out z y g u v l) (q:VQ b H N W k y g u v t d n s A):yQ b H N W (k+1) o out z t d n s (l++A):=
 ⟨λm w=>(Acb.1 w).elim (λw=>by obtain⟨p,B,x⟩:=I.mv m w;exact⟨p,by omega,x⟩) (λw=>⟨k,by omega,q.mv m w⟩),
  List.pairwise_append.2 ⟨I.ord,Ae8.2 λi j C D _=>by
  rw[(q.mv _ (Ab2 C)).fr,(q.mv _ (Ab2 D)).fr];exact Acj _,λa F c G=>by
  obtain⟨p,B,x⟩:=I.mv a F;rw[x.fr,(q.mv c G).fr];omega⟩,
  by rw[q.ms_,I.ms_,Acu],by rw[q.own,I.own];unfold R7;rw[Aek],by rw[q.out_,I.out_];unfold Tm;rw[Aek],by rw[q.sn_,I.sn_,List.filterMap_append],I.val.app (by rw[←I.own];exact q.val),q.ox,q.ol,by rw[WG];have:=I.tot;have:=q.tot;omega⟩
def T6 {N:Nat}(a:8000000000000<N) (p:List Int) (W:Nat):∃v,KR N p (W:Int)=some v∧(v=true→PX W p∧W≤16):=by
 unfold KR;cases b:((decide (0≤(W:Int))&&decide ((W:Int)≤16))&&decide ((p.length:Int)=(W:Int)))
 ·exact⟨_,rfl,λd=>by cases d⟩
 ·simp only[Abq,Ab6] at b;obtain⟨v,c,k⟩:=ZT a (p:=p) (by omega);rw[Abj,c];exact⟨_,rfl,λd=>⟨⟨by omega,(k d).1,(k d).2⟩,by omega⟩⟩
def Vt {N:Nat}(q:8000000000000<N) {l:List Int}(t:l.length≤1000) {m:Int}(d:0≤m∧m≤2305843009213693952):∃r,Jj N l m=some r∧(r.2=true→(∀x∈l,0≤x)∧l.sum≤m∧r.1=l.sum):=by
 unfold Jj;rcases NP l.length (λn i s=>Gf N l m (H8 N) n s i) (H8 N) (some (0,false)) (λk s=>(∀x∈l.take k,0≤x)∧s=(l.take k).sum∧s≤m∧0≤s) (λn k s a=>by
  simp only[Gf];rw[Fj a];rfl) (λn k s g a=>by
  obtain⟨b,c,j,o⟩:=g;simp only[Gf];rw[FD a,Abj,BF a,Abi,A9 (by omega),ER (n:=m-s) (by omega) (by omega)];cases p:(decide (l[k]<0)||decide (m-s<l[k]))
  ·simp only[Acd,Ab7] at p;rw[Abk,ER (n:=s+l[k]) (by omega) (by omega)];exact .inr ⟨_,⟨Ly a b (by omega),by rw[Ke a,c],by omega,by omega⟩,rfl⟩
  ·exact .inl rfl) N 0 0 ⟨by simp,rfl,d.1,Acj _⟩ (by omega) (Abn _) with e|⟨s,⟨b,c,j,o⟩,e⟩
 ·exact⟨_,e,λu=>by cases u⟩
 ·rw[Ack] at b c;exact⟨_,e,λ_=>⟨b,by omega,c⟩⟩
def ZZ {N:Nat}(j:8000000000000<N) (b:AF) (s:AI) (X:s.G.length≤1000) (Y:s.I.length≤4000000000000):∃r,Kg N b s=some r∧(r.2=true→(∀x∈s.G,PX b.H.length x)∧(∀l∈s.I,(PX b.H.length l.V∧0≤l.D∧l.D<b.A.length)∧s.B≤l.At∧0<l.V.sum)∧r.1=GH s.G+Hb s.I∧r.1≤1125899906842624):=by
 unfold Kg;rcases NP s.G.length (λn i t=>GI N b s (GJ N b s) n t i) (GJ N b s) (some (0,false)) (λk t=>(∀x∈s.G.take k,PX b.H.length x)∧t=GH (s.G.take k)∧0≤t∧t≤1125899906842624) (λn k t a=>by
  simp only[GI];rw[Fj a];rfl) (λn k t q a=>by
  obtain⟨m,w,F,J⟩:=q;simp only[GI];obtain⟨v,y,z⟩:=T6 j s.G[k] b.H.length;rw[FD a,Abj,BF a,Abi,y,Abi,A9 (by omega)];cases v
  ·exact .inl rfl
  ·obtain⟨c,d⟩:=z rfl;have Q:=c.mv;have U:=c.sum0;rw[Acq,Abk,c.total j (by omega),Abi,ER (n:=t+(s.G[k]).sum) (by omega) (by omega)];by_cases g:1125899906842624<t+(s.G[k]).sum
   ·rw[Ab3 g];exact .inl rfl
   ·rw[Abs g];exact .inr ⟨_,⟨Ly a m c,by rw[Np a,w],by omega,by omega⟩,rfl⟩) N 0 0 ⟨by simp,rfl,Acj _,by decide⟩ (by omega) (Abn _) with e|⟨t,⟨m,w,F,J⟩,e⟩
 ·exact⟨_,e,λh=>by cases h⟩
 ·rw[show GI N b s (GJ N b s) N 0 0=GJ N b s t from e];rw[Ack] at m w;unfold GJ;rcases NP s.I.length (λn i t=>G8 N b s (If N) n t i) (If N) (some (0,false)) (λk u=>(∀l∈s.I.take k,(PX b.H.length l.V∧0≤l.D∧l.D<b.A.length)∧s.B≤l.At∧0<l.V.sum)∧u=t+Hb (s.I.take k)∧0≤u∧u≤1125899906842624) (λn k t a=>by
   simp only[G8];rw[Fj a];rfl) (λn k u q a=>by
   obtain⟨o,C,W,K⟩:=q;simp only[G8];obtain⟨v,y,z⟩:=T6 j (s.I[k]).V b.H.length;rw[FD a,Abj,BF a,A9 (by omega)];simp only[Abi,Nm,y,Gy];cases g:cond (decide ((s.I[k]).At<s.B)) true (!(decide (0≤(s.I[k]).D)&&decide ((s.I[k]).D<(b.A.length:Int))))
   ·rw[Lu,Acd] at g;obtain⟨M,p⟩:=g;have M:=Aev M;rw[Adz] at p;obtain⟨p,Z⟩:=Qp.1 p;cases v
    ·exact .inl rfl
    ·obtain⟨c,d⟩:=z rfl;have Q:=c.mv;have U:=c.sum0;simp only[Acq,Abk];rw[c.total j (by omega),Abi,ER (n:=u+(s.I[k]).V.sum) (by omega) (by omega)];cases hd:(decide ((s.I[k]).V.sum≤0)||decide (1125899906842624<u+(s.I[k]).V.sum))
     ·simp only[Acd,Ab7] at hd;exact .inr ⟨_,⟨Ly a o ⟨⟨c,p,by omega⟩,by omega,by omega⟩,by rw[Mp a,C];omega,by omega,by omega⟩,rfl⟩
     ·exact .inl rfl
   ·exact .inl rfl) N 0 t ⟨by simp,by simp [Hb],F,J⟩ (by omega) (Abn _) with d|⟨u,⟨o,C,W,K⟩,d⟩
  ·exact⟨_,d,λh=>by cases h⟩
  ·rw[Ack] at o C;exact⟨_,d,λ_=>⟨m,o,by show u=_;omega,K⟩⟩
structure Abb (b:AF) (s:AI):Prop where
 x:Aan b s
 hour:0≤s.B∧s.B≤16777216
 gts:∀(k:Nat) l g,b.C[k]? =some l→s.P[k]? =some g→(0≤g.Z∧g.Z≤l.W)∧(0≤g.Aa∧g.Aa≤l.W)
 at_:∀l∈s.I,s.B≤l.At∧0<l.V.sum
 out0:∀x∈s.O,0≤x
 outs:s.O.sum≤s.L.sum+1125899906842624-(GH s.G+Hb s.I)
structure Ws (b:AF) (s:AI):Prop where
 rg:Abb b s
 rem:∀(k:Nat) p m,b.A[k]? =some p→s.N[k]? =some m→0≤m∧m≤max 0 (p.S-1)
 opn:∀(k:Nat) l g,b.C[k]? =some l→s.P[k]? =some g→g.Am=true→l.F=5∨l.F=3
def ZD {N:Nat}(M:8000000000000<N) {b:AF}(Q:IG b) (w:∀p∈b.A,I1 b p) (s:AI) (hq:s.I.length≤4000000000000):∃v,KQ N b s=some v∧(v=true→Ws b s):=by
 have hP:=Q.pl;have hL:=Q.li;have hW:=Q.own;unfold KQ;generalize hB:(_||decide ((s.O.length:Int)≠(b.H.length:Int)))=B
 cases B
 ·simp only[Acd,Ab7,ne_eq,Decidable.not_not] at hB;obtain⟨⟨⟨⟨⟨⟨b1,b2⟩,b3⟩,b4⟩,b5⟩,b6⟩,b7⟩:=hB;rw[Abk];rcases NP b.A.length (λn i (_:Unit)=>G3 N b s (G5 N b s) n i) (λ_=>G5 N b s) (some false) (λi _=>∀(k:Nat) p m,k<i→b.A[k]? =some p→s.N[k]? =some m→0≤m∧m≤max 0 (p.S-1)) (λn k t c=>by
   simp only[G3];rw[Fj c];rfl) (λn k t U c=>by
   simp only[G3];have y:k<s.N.length:=by omega
   have hd:=(w _ (Ab2 c)).den;unfold Jv at hd;rw[FD c,Abj,BF c,BF y,A9 (by omega)];simp only[Abi,Gy,Lu];rw[ER (n:=(b.A[k]).S-1) (by omega) (by omega)];cases K:(decide (s.N[k]<0)||decide (max 0 ((b.A[k]).S-1)<s.N[k]))
   ·simp only[Acd,Ab7] at K;refine .inr ⟨(),λj p m hj q z=>?_,rfl⟩;by_cases d:j=k
    ·subst d;rw[Abw c] at q;rw[Abw y] at z;cases q;cases z;omega
    ·exact U j p m (by omega) q z
   ·exact .inl rfl) N 0 () (λk p m h=>by omega) (by omega) (Abn _) with e|⟨_,i1,e⟩
  ·exact⟨_,e,λh=>by cases h⟩
  ·rw[show G3 N b s (G5 N b s) N 0=G5 N b s from e];unfold G5;rcases NP b.C.length (λn i (_:Unit)=>G2 N b s (G4 N b s) n i) (λ_=>G4 N b s) (some false) (λi _=>∀(k:Nat) l g,k<i→b.C[k]? =some l→s.P[k]? =some g→((0≤g.Z∧g.Z≤l.W)∧(0≤g.Aa∧g.Aa≤l.W))∧(g.Am=true→l.F=5∨l.F=3)) (λn k t c=>by
    simp only[G2];rw[Fj c];rfl) (λn i t U c=>by
    simp only[G2];have y:i<s.P.length:=by omega
    rw[FD c,Abj,BF c,BF y,A9 (by omega)];simp only[Abi];cases K:(((decide ((s.P[i]).Z<0)||decide ((b.C[i]).W<(s.P[i]).Z))||decide ((s.P[i]).Aa<0))||decide ((b.C[i]).W<(s.P[i]).Aa))
    ·simp only[Acd,Ab7] at K;obtain⟨⟨⟨c1,c2⟩,c3⟩,c4⟩:=K;rw[Abk];cases V:(((s.P[i]).Am&&decide ((b.C[i]).F≠5))&&decide ((b.C[i]).F≠3))
     ·refine .inr ⟨(),λk l g ae a o=>?_,rfl⟩;by_cases d:k=i
      ·subst d;rw[Abw c] at a;rw[Abw y] at o;cases a;cases o;refine⟨⟨⟨by omega,by omega⟩,by omega,by omega⟩,λX=>?_⟩;rw[X,Bool.true_and,Bool.and_eq_false_iff] at V;simp only[Ab7,ne_eq,Decidable.not_not] at V;exact V
      ·exact U k l g (by omega) a o
     ·exact .inl rfl
    ·exact .inl rfl) N 0 () (λk l g h=>by omega) (by omega) (Abn _) with e|⟨_,i2,e⟩
   ·exact⟨_,e,λh=>by cases h⟩
   ·rw[show G2 N b s (G4 N b s) N 0=G4 N b s from e];unfold G4;obtain⟨r,er,Y⟩:=ZZ M b s (by omega) hq;rw[er,Abi];cases aa:r.2
    ·exact⟨_,rfl,λh=>by cases h⟩
    ·obtain⟨Y,k2,k3,k4⟩:=Y aa;have D:Js b.A.length b.H.length s.G:=⟨by omega,Y⟩
     have J:QX b.A.length b.H.length s.I:=λl a=>(k2 l a).1;have af:=D.sum0;have ab:=(IR J 0).2;rw[Adg,show Hb ([]:List AT)=0 from rfl] at ab;obtain⟨u,hu,ku⟩:=Vt M (l:=s.L) (by omega) (m:=1152921504606846976) (by decide);rw[Acq,Abk,hu,Abi];cases ac:u.2
     ·exact⟨_,rfl,λh=>by cases h⟩
     ·obtain⟨u1,u2,u3⟩:=ku ac;have u0:=Ka u1;rw[ER (n:=u.1+1125899906842624) (by omega) (by omega),ER (n:=u.1+1125899906842624-r.1) (by omega) (by omega)];obtain⟨x,hx,kx⟩:=Vt M (l:=s.O) (by omega) (m:=u.1+1125899906842624-r.1) ⟨by omega,by omega⟩;rw[Acq,Abk,hx,Abi];refine⟨_,rfl,λad=>?_⟩;obtain⟨x1,x2,x3⟩:=kx ad;exact⟨⟨⟨D,J,by omega,by omega,by omega,by omega,u1,u2,by omega⟩,⟨by omega,by omega⟩,λk l g a o=>(i2 k l g (Aby.1 a).1 a o).1,λl a=>(k2 l a).2,x1,by omega⟩,λk p m q z=>i1 k p m (Aby.1 q).1 q z,λk l g a o=>(i2 k l g (Aby.1 a).1 a o).2⟩
 ·exact⟨_,rfl,λh=>by cases h⟩
structure Wt (l:BB) (g:A4):Prop where
 pos:0≤g.Z∧g.Z≤l.W
 tgt:0≤g.Aa∧g.Aa≤l.W
 opn:g.Am=true→l.F=5∨l.F=3
def OF (b:AF) (a:List A4):Prop:=a.length=b.C.length∧∀(k:Nat) l g,b.C[k]? =some l→a[k]? =some g→Wt l g
def TX (b:AF):Prop:=∀l∈b.C,(0≤l.W∧l.W≤64)∧0≤l.Ag∧l.Ag≤l.W
def OF.at_ {b:AF}{a:List A4}(j:OF b a) {i:Int}{l:BB}{g:A4}(c:ix b.C i=some l) (d:ix a i=some g):Wt l g:=j.2 _ _ _ (F6 c).2 (F6 d).2
def OF.upd {b:AF}{j:List A4}(p:OF b j) {i:Int}{l:BB}{g:A4}(d:ix b.C i=some l) (m:Wt l g):OF b (upd j i g):=by
 obtain⟨h0,d⟩:=F6 d;refine⟨by rw[Mu];exact p.1,λk n o c a=>?_⟩;unfold Go.Proofs.YtabonambpbofgaaGreat.upd at a;by_cases e:i.toNat=k
 ·rw[e] at d a;rw[d] at c;cases c;rw[Adw (by rw[p.1];exact(Aby.1 d).1)] at a;cases a;exact m
 ·rw[Ads e] at a;exact p.2 k n o c a
def Wt.fault {N:Nat}{l:BB}{g a:A4}{k:Int}(m:Wt l g) (e:IS N l g k=some a):Wt l a:=by
 have d:∀c:Bool,Hh N l g k (G6 N g) c=some a→Wt l a:=λc e=>by
  unfold Hh at e;cases c
  ·cases e;exact⟨m.pos,m.tgt,m.opn⟩
  ·by_cases b:l.F=5
   ·rw[Ab3 b] at e;cases e;exact⟨m.pos,m.tgt,λ_=> .inl b⟩
   ·rw[Abs b] at e;cases e;exact⟨m.pos,m.tgt,m.opn⟩
 unfold IS at e;cases h0:decide (k=0)<;>rw[h0] at e
 ·cases i:decide (k=1)<;>rw[i] at e
  ·cases j:decide (k=2)<;>rw[j] at e
   ·exact d (decide (k=3)) e
   ·exact d true e
  ·cases e;exact⟨m.pos,m.tgt,m.opn⟩
 ·cases e;exact⟨m.pos,m.tgt,m.opn⟩
def Wt.aim {N:Nat}{l:BB}{g a:A4}{t:Int}(c:0≤l.W) (o:Wt l g) (e:Jx N l g t=some a):Wt l a:=by
 obtain⟨x,d,i,n,j⟩:=fS N l g t;have b:a=x:=Abo (e.symm.trans d);have k:a.Am=g.Am:=by
  unfold Jx at e;cases m:decide (l.W≠0)<;>rw[m] at e
  ·cases e;rfl
  ·obtain⟨y,_,e⟩:=bd e;cases e;rfl
 exact⟨by rw[b,i];exact o.pos,by rw[b];exact j c o.tgt.1 o.tgt.2,by rw[k];exact o.opn⟩
def Wt.move {N:Nat}{l:BB}{g a:A4}(b:(0≤l.W∧l.W≤64)∧0≤l.Ag∧l.Ag≤l.W) (k:Wt l g) (e:Ia N l g=some a):Wt l a:=by
 have i:gM N l g=a:=Abo ((dN N l g).symm.trans e);have c:=(qR N l g b.1.2 b.2 k.pos k.tgt).1;rw[i] at c;have d:a.Aa=g.Aa∧a.Am=g.Am:=by
  unfold Ia at e;cases j:g.Ay<;>rw[j] at e
  ·rw[Abk] at e;obtain⟨_,_,e⟩:=bd e;obtain⟨_,_,e⟩:=bd e;obtain⟨_,_,e⟩:=bd e;obtain⟨_,_,e⟩:=bd e;cases e;exact⟨rfl,rfl⟩
  ·cases e;exact⟨rfl,rfl⟩
 exact⟨c,by rw[d.1];exact k.tgt,by rw[d.2];exact k.opn⟩
def Wt.siphon {N:Nat}{l:BB}{g b:A4}{v:Int}(d:Wt l g) (e:Hy N l g v=some b):Wt l b:=by
 unfold Hy at e;by_cases a:l.F=3
 ·rw[show decide (l.F≠3)=false by simp [a],Abk] at e;cases c:decide (l.Az≤v)<;>rw[c] at e
  ·cases hd:decide (v≤l.Ba)<;>rw[hd] at e<;>cases e
   ·exact⟨d.pos,d.tgt,λ_=> .inr a⟩
   ·exact⟨d.pos,d.tgt,λ_=> .inr a⟩
  ·cases e;exact⟨d.pos,d.tgt,λ_=> .inr a⟩
 ·rw[show decide (l.F≠3)=true by simp [a],Abj] at e;cases e;exact d
def UA {N:Nat}{w:AM}(j:TX w.b):∀(n:Nat) (i:Int) {a r:List A4},OF w.b a→D9 N w n i a=some r→OF w.b r
 |0,_,_,_,_,e=>by cases e
 |n+1,i,a,r,q,e=>by
  simp only[D9] at e;cases k:decide (i<(w.b.C.length:Int))<;>rw[k] at e
  ·cases e;exact q
  ·rw[Abj] at e;obtain⟨l,c,e⟩:=bd e;obtain⟨o,_,e⟩:=bd e;obtain⟨g,m,e⟩:=bd e;obtain⟨p,d,e⟩:=bd e;obtain⟨_,_,e⟩:=bd e;obtain⟨_,_,e⟩:=bd e;exact UA j n _ (q.upd c ((q.at_ c m).move (j l (Acy (F6 c).2)) d)) e
def RM {N:Nat}{w:AM}(a:TX w.b):∀(n:Nat) (i:Int) {c r:List A4},OF w.b c→DE N w (Dk N w) n i c=some r→OF w.b r
 |0,_,_,_,_,e=>by cases e
 |n+1,i,c,r,q,e=>by
  simp only[DE,HB] at e;cases k:decide (i<(w.in_.Ac.length:Int))<;>rw[k] at e
  ·exact UA a N 0 q e
  ·rw[Abj] at e;obtain⟨x,_,e⟩:=bd e;obtain⟨y,_,e⟩:=bd e;cases y with
   |false=>exact RM a n _ q e
   |true=>
    rw[Abj] at e;obtain⟨l,d,e⟩:=bd e;obtain⟨o,_,e⟩:=bd e;obtain⟨g,m,e⟩:=bd e;obtain⟨p,j,e⟩:=bd e;obtain⟨_,_,e⟩:=bd e;obtain⟨_,_,e⟩:=bd e;exact RM a n _ (q.upd d ((q.at_ d m).aim (a l (Acy (F6 d).2)).1.1 j)) e
def RN {N:Nat}{w:AM}(a:TX w.b):∀(n:Nat) (i:Int) {c r:List A4},OF w.b c→DF N w (Dm N w) n i c=some r→OF w.b r
 |0,_,_,_,_,e=>by cases e
 |n+1,i,c,r,q,e=>by
  simp only[DF,HC] at e;cases k:decide (i<(w.in_.Ab.length:Int))<;>rw[k] at e
  ·exact RM a N 0 q e
  ·rw[Abj] at e;obtain⟨x,_,e⟩:=bd e;obtain⟨y,_,e⟩:=bd e;cases y with
   |false=>exact RN a n _ q e
   |true=>
    rw[Abj] at e;obtain⟨l,j,e⟩:=bd e;obtain⟨o,_,e⟩:=bd e;obtain⟨g,m,e⟩:=bd e;obtain⟨p,d,e⟩:=bd e;obtain⟨_,_,e⟩:=bd e;obtain⟨_,_,e⟩:=bd e;exact RN a n _ (q.upd j ((q.at_ j m).fault d)) e
def VA {N:Nat}{w:AM}{y:List (List Int)×List AT}{o:List (List Int)}{j:List Int}:∀(n:Nat) (i:Int) {a:List A4}{r:List (List Int)×List AT×List A4×List Int},OF w.b a→Cu N w y o j n i a=some r→OF w.b r.2.2.1
 |0,_,_,_,_,e=>by cases e
 |n+1,i,a,r,t,e=>by
  simp only[Cu,Fy] at e;cases k:decide (i<(w.b.C.length:Int))<;>rw[k] at e
  ·cases e;exact t
  ·rw[Abj] at e;obtain⟨l,d,e⟩:=bd e;cases m:decide (l.F=3)<;>rw[m] at e
   ·exact VA n _ t e
   ·rw[Abj] at e;obtain⟨q,_,e⟩:=bd e;obtain⟨g,p,e⟩:=bd e;obtain⟨_,_,e⟩:=bd e;obtain⟨v,_,e⟩:=bd e;obtain⟨s,c,e⟩:=bd e;obtain⟨_,_,e⟩:=bd e;obtain⟨_,_,e⟩:=bd e;exact VA n _ (t.upd d ((t.at_ d p).siphon c)) e
def Ya {N:Nat}{w:AM}{y:List (List Int)×List AT}:∀(n:Nat) (i:Int) {o:List (List Int)}{a:List Int}{r:List (List Int)×List AT×List A4×List Int},OF w.b w.s.P→DG N w y (DX N w y) n i o a=some r→OF w.b r.2.2.1
 |0,_,_,_,_,_,e=>by cases e
 |n+1,i,o,a,r,d,e=>by
  simp only[DG] at e;cases c:decide (i<(w.b.A.length:Int))<;>rw[c] at e
  ·exact VA N 0 d e
  ·rw[Abj] at e
   iterate 12 (replace e:=(bd e).choose_spec.2)
   exact Ya n _ d e
def VH (b:AF) (rem:List Int):Prop:=rem.length=b.A.length∧∀(k:Nat) p m,b.A[k]? =some p→rem[k]? =some m→0≤m∧m≤max 0 (p.S-1)
def VH.upd {b:AF}{rem:List Int}(n:VH b rem) {i:Int}{p:Cp}{m:Int}(d:ix b.A i=some p) (g:0≤m∧m≤max 0 (p.S-1)):VH b (upd rem i m):=by
 obtain⟨h0,d⟩:=F6 d;refine⟨by rw[Mu];exact n.1,λk j l c a=>?_⟩;unfold Go.Proofs.YtabonambpbofgaaGreat.upd at a;by_cases e:i.toNat=k
 ·rw[e] at d a;rw[d] at c;cases c;rw[Adw (by rw[n.1];exact(Aby.1 d).1)] at a;cases a;exact g
 ·rw[Ads e] at a;exact n.2 k j l c a
def ZM {N:Nat}(g:18446744073709551616<N) {a:Cp}(hd:0≤a.S∧a.S≤1125899906842624) {v m:Int}{y:Int×Int}(e:Jc N a v m=some y):0≤y.2∧y.2≤max 0 (a.S-1):=by
 unfold Jc at e;rw[Oq g,Abi] at e;unfold vG at e;split at e
 ·rename_i i;obtain⟨_,_,⟨j,k⟩,_⟩:=i;have l:=Int.emod_nonneg (v*a.Y) (show a.S≠0 by omega);have o:=Int.emod_lt_of_pos (v*a.Y) (show 0<a.S by omega);have d:∀b,0≤b→b<a.S→Hp N a (v*a.Y/a.S,v*a.Y%a.S,true) b=some y→0≤y.2∧y.2≤max 0 (a.S-1):=λb h0 p e=>by
   unfold Hp at e;simp only at e;rw[ER (n:=v*a.Y%a.S+b) (by omega) (by omega)] at e;by_cases q:v*a.Y%a.S+b<a.S
   ·rw[Ab3 q,Abj] at e;cases e;show 0≤v*a.Y%a.S+b∧v*a.Y%a.S+b≤_
    omega
   ·rw[Abs q,Abk,ER (n:=v*a.Y%a.S+b-a.S) (by omega) (by omega)] at e;cases e;show 0≤v*a.Y%a.S+b-a.S∧v*a.Y%a.S+b-a.S≤_
    omega
  simp only[Acq,Abk] at e;cases c:(decide (0≤m)&&decide (m<a.S))<;>rw[c] at e
  ·exact d 0 (by omega) (by omega) e
  ·simp only[Abq,Ab6] at c;exact d m c.1 c.2 e
 ·simp only[Bool.not_false,Abj] at e;cases e;show(0:Int)≤0∧(0:Int)≤_
  omega
def UB {N:Nat}{w:AM}{p:Int}{c:List AD}{kj:List (List Int)→List Int→List AX→List AT→Option (List (List Int)×List Int×List Int×List AX×List AT)}:∀(n:Nat) (i:Int) {o:List (List Int)}{out:List Int}{a:List AX}{b:List AT}{r},Dn N w p c kj n i o out a b=some r→∃o out a b,kj o out a b=some r
 |0,_,_,_,_,_,_,e=>by cases e
 |n+1,i,o,out,a,b,r,e=>by
  simp only[Dn] at e;cases d:decide (i<(c.length:Int))<;>rw[d] at e
  ·exact⟨_,_,_,_,e⟩
  ·rw[Abj] at e
   iterate 3 (replace e:=(bd e).choose_spec.2)
   exact UB n _ e
def UE {N:Nat}{w:AM}{p:Int}{a:Cp}{o:List (List Int)}{out:List Int}{b:List AX}{c:List AT}{rem:List Int}{r}(e:DW N w p a o out b c rem=some r):r.2.1=rem:=by
 unfold DW at e;obtain⟨_,_,e⟩:=bd e;obtain⟨_,_,e⟩:=bd e;obtain⟨v,_,e⟩:=bd e;cases d:decide (0<BQ (v-a.Av))<;>rw[d] at e
 ·cases e;rfl
 ·rw[Abj] at e;obtain⟨_,_,e⟩:=bd e;obtain⟨_,_,e⟩:=bd e;cases e;rfl
def XG {N:Nat}(j:18446744073709551616<N) {w:AM}(c:∀p∈w.b.A,I1 w.b p) {p:Int}{r}(u:VH w.b w.s.N) (e:HR N w p=some r):VH w.b r.2.1:=by
 unfold HR at e;obtain⟨d,a,e⟩:=bd e;obtain⟨_,_,e⟩:=bd e;obtain⟨_,_,e⟩:=bd e;obtain⟨q,_,e⟩:=bd e;obtain⟨o,out,k,l,e⟩:=UB N 0 e;have hd:=(c _ (Acy (F6 a).2)).den;unfold Jv at hd;unfold F8 at e;cases m:decide (d.S≠0)<;>rw[m] at e
 ·rw[UE e];exact u
 ·rw[Abj] at e;obtain⟨_,_,e⟩:=bd e;obtain⟨_,_,e⟩:=bd e;obtain⟨_,_,e⟩:=bd e;obtain⟨_,_,e⟩:=bd e;obtain⟨y,n,e⟩:=bd e;obtain⟨_,_,e⟩:=bd e;obtain⟨_,_,e⟩:=bd e;obtain⟨_,_,e⟩:=bd e;obtain⟨_,_,e⟩:=bd e;obtain⟨t,_,e⟩:=bd e;have h0:VH w.b (upd w.s.N p 0):=u.upd a (by omega);have i:∀rem,E5 N w p d o out k l y (DW N w p d) rem=some r→r.2.1=rem:=λrem e=>by
   unfold E5 at e;obtain⟨_,_,e⟩:=bd e;obtain⟨_,_,e⟩:=bd e;exact UE e
  cases g:decide (y.1≤t)<;>rw[g] at e
  ·rw[i _ e];exact h0
  ·rw[Abj] at e;obtain⟨_,_,e⟩:=bd e;obtain⟨_,_,e⟩:=bd e;rw[i _ e];exact h0.upd a (ZM j hd n)
def Vu {N:Nat}(j:18446744073709551616<N) {b:AF}(a:∀p∈b.A,I1 b p) {in_:B3}{s:AI}{y z}:∀(n:Nat) (i:Int) {o:List (List Int)}{c out:List Int}{d:List AX}{g:List AT}{r},VH b c→FO N b in_ s y z (FP N s y z) n i o c out d g=some r→VH b r.1.N∧r.1.P=z.2.2.1
 |0,_,_,_,_,_,_,_,_,e=>by cases e
 |n+1,i,o,c,out,d,g,r,m,e=>by
  simp only[FO] at e;cases k:decide (i<(b.A.length:Int))<;>rw[k] at e
  ·rw[Abk] at e;unfold FP at e;obtain⟨_,e⟩:=Lp e;cases e;exact⟨m,rfl⟩
  ·rw[Abj] at e;obtain⟨x,l,e⟩:=bd e;exact Vu j a n _ (XG j (w:=(⟨b,in_,(⟨s.B,o,c,z.2.1,z.2.2.1,y.2.1,out⟩:AI),d,z.2.2.2,g⟩:AM)) a m l) e
def iN {N:Nat}(u:18446744073709551616<N) {b:AF}(m:IG b) (c:∀p∈b.A,I1 b p) (v:TX b) {s:AI}(d:Ws b s) {in_:B3}{r}(e:He N b s in_=some r):VH b r.1.N∧OF b r.1.P:=by
 have C:=m.pl;have K:=m.li;have M:=m.own;have a:=d.rg.x;have D:OF b s.P:=⟨a.gates,λk l g n o=>⟨(d.rg.gts k l g n o).1,(d.rg.gts k l g n o).2,d.opn k l g n o⟩⟩
 unfold He at e;rw[UO (by omega) (by have:=a.own.len;omega) (λx q=>by have:=(a.own.all x q).len;omega) (by have:=a.rem;omega) (by have:=a.gates;omega) (by have:=a.inn;omega) (by have:=a.out;omega),Abi] at e;obtain⟨_,e⟩:=Lp e;obtain⟨t,i,e⟩:=bd e;obtain⟨Q,_,e⟩:=bd e;obtain⟨y,_,e⟩:=bd e;obtain⟨z,j,e⟩:=bd e;have F:OF b t:=by
  unfold HQ at i;exact RN (w:=(⟨b,in_,s,([]:List AX),(List.replicate ((b.A.length:Int)).toNat (0:Int)),([]:List AT)⟩:AM)) v N 0 D i
 have G:OF b z.2.2.1:=by
  unfold F9 at j;obtain⟨_,_,j⟩:=bd j;exact Ya (w:=(⟨b,in_,(⟨s.B,y.1,s.N,s.I,t,y.2.1,s.O⟩:AI),y.2.2,(List.replicate ((b.A.length:Int)).toNat (0:Int)),([]:List AT)⟩:AM)) N 0 F j
 obtain⟨H,J⟩:=Vu u c N 0 ⟨a.rem,d.rem⟩ e;exact⟨H,by rw[J];exact G⟩
def Tz {N:Nat}(p:Cp) (kj:Int→Option Bool) (j:p.An.length≤1000):∀(n:Nat) (s:Int) (k:Nat),0≤s→s+((p.An.length:Int)-k)*1125899906842624≤4611686018427387904→k≤p.An.length→DP N p kj n s (k:Int)=some true→kj (s+(p.An.drop k).sum)=some true∧∀x∈p.An.drop k,0≤x∧x≤1125899906842624
 |0,s,k,h0,l,m,o=>by cases o
 |n+1,s,k,h0,l,m,o=>by
  simp only[DP] at o;rcases Ab4 k p.An.length with d|d
  ·rw[FD d,Abj,BF d,Abi,MV,Abi,A9 (by omega)] at o;cases i:Te p.An[k] with
   |false=>rw[i] at o;cases o
   |true=>
    have g:=LK i;unfold Jv at g;rw[i,Acq,Abk,ER (n:=s+p.An[k]) (by omega) (by omega)] at o;obtain⟨a,c⟩:=Tz p kj j n _ (k+1) (by omega) (by omega) (by omega) o;rw[Ad0 d,Acz,←Int.add_assoc];refine⟨a,λx b=>?_⟩;rcases Abr.1 b with rfl|b
    ·exact g
    ·exact c x b
  ·rw[Fj d,Abk] at o;rw[Adq d];exact⟨by rw[List.sum_nil,Int.add_zero];exact o,λx g=>by cases g⟩
def V8 {N:Nat}(b:AF) (p:Cp) (a:Int) (kj:Int→Option Bool):∀(n:Nat) (s j:Int),Cn N b p a kj n s j=some true→kj a=some true
 |0,_,_,g=>by cases g
 |n+1,s,j,g=>by
  simp only[Cn] at g;cases d:decide (j<(p.T.length:Int)) with
  |false=>rw[d] at g;exact g
  |true=>
   rw[d,Abj] at g;obtain⟨x,_,g⟩:=bd g;obtain⟨c,_,g⟩:=bd g;cases c with
   |true=>cases g
   |false=>exact V8 b p a kj n _ _ g
def T9 (H:Int) (p:Nat):List AD→List Int→List AX
 |[],_=>[]
 |e::es,x=>match e.take x with
  |some y=>(if y.1.sum≤0 then [] else [(⟨H,(p:Int),e.to_,e.way,y.1⟩:AX)])++T9 H p es y.2
  |none=>T9 H p es x
def Zw:List AD→List Int→List Int
 |[],x=>x
 |e::es,x=>match e.take x with
  |some y=>Zw es y.2
  |none=>Zw es x
def SJ (H:Int) (p:Nat):∀(a b:List AD) (x:List Int),T9 H p (a++b) x=T9 H p a x++T9 H p b (Zw a x)
 |[],b,x=>rfl
 |e::a,b,x=>by
  simp only[Abx,T9,Zw];cases e.take x with
  |none=>exact SJ H p a b x
  |some y=>simp only;rw[SJ H p a b y.2,Acu]
def Us:∀(a b:List AD) (x:List Int),Zw (a++b) x=Zw b (Zw a x)
 |[],b,x=>rfl
 |e::a,b,x=>by
  simp only[Abx,Zw];cases e.take x with
  |none=>exact Us a b x
  |some y=>exact Us a b y.2
def SI {H:Int}{p:Nat}:∀{es:List AD}{x:List Int}(m:AX),m∈T9 H p es x→∃e∈es,m.Be=e.way∧m.M=(p:Int)
 |[],x,m,a=>by cases a
 |e::es,x,m,a=>by
  simp only[T9] at a;cases g:e.take x with
  |none=>
   rw[g] at a;obtain⟨b,c,d⟩:=SI (es:=es) m a;exact⟨b,.tail _ c,d⟩
  |some y=>
   rw[g] at a;rcases Acb.1 a with a|a
   ·split at a
    ·cases a
    ·rw[Acf.1 a];exact⟨e,.head _,rfl,rfl⟩
   ·obtain⟨b,c,d⟩:=SI (es:=es) m a;exact⟨b,.tail _ c,d⟩
def NL (b:AF) (p:Nat) (t:FM):Bool:=decide (t.Ap=(p:Int))&&(decide (0≤t.Bh)&&decide (t.Bh<(b.H.length:Int)))&&decide (0<t.Bd)&&(decide (t.D= -1)||((decide (0≤t.D)&&decide (t.D<(b.A.length:Int)))&&decide ((b.A.getD t.D.toNat default).Au=(b.A.getD p default).Au)))
def Xs (N:Nat) (t:FM):AD:=⟨t.D,0, -3,λy=>EQ N t y⟩
def Mw (N:Nat) (b:AF) (p:Nat) (a:List FM):List AD:=(a.filter (NL b p)).map (Xs N)
def Wx (N:Nat) (b:AF) (p:Nat) {a:List FM}{k:Nat}(c:k<a.length):Mw N b p (a.take (k+1))=Mw N b p (a.take k)++if NL b p a[k] then [Xs N a[k]] else []:=by
 unfold Mw;rw[Ac1 c,Ad2,Adb];congr 1;cases d:NL b p a[k]<;>simp [d]
def Ty (N:Nat) (b:AF) (p:Nat) (a:List FM):(Mw N b p a).length≤a.length:=by
 unfold Mw;rw[Aep];exact Afd _ _
def bB {N:Nat}(Q:18446744073709551616<N) {w:AM}(V:w.in_.U.length≤1000) {p:Nat}(v:p<w.b.A.length):JO N w (p:Int)=some (Mw N w.b p w.in_.U):=by
 unfold JO;obtain⟨l,C,e⟩:=Fs w.in_.U.length (λn i l=>Cw N w (p:Int) (D8 N) n l i) (D8 N) (λk l=>l=Mw N w.b p (w.in_.U.take k)) (λn k l q=>by
  simp only[Cw];rw[Fj q];rfl) (λn k l F q=>by
  have G:=Ty N w.b p (w.in_.U.take k);rw[←F,Ac3] at G;rw[Wx N w.b p q,←F];simp only[Cw,G9];rw[FD q,Abj,BF q,A9 (by omega)];simp only[Abi,Nm,Gy];generalize w.in_.U[k]=x
  have s:w.b.A.getD p default=w.b.A[p]:=by simp [Acv,v]
  have c:∀B:Bool,NL w.b p x=B→∃s',s'=(l++if NL w.b p x then [Xs N x] else [])∧cond B (chk (Ha (l.length+1) 32) (Cw N w (p:Int) (D8 N) n (l++([(⟨x.D,0,(-3),(λy=>EQ N x y)⟩:AD)]:List AD)) ((k+1:Nat):Int))) (Cw N w (p:Int) (D8 N) n l ((k+1:Nat):Int))=Cw N w (p:Int) (D8 N) n s' ((k+1:Nat):Int):=λB I=>by
   refine⟨_,rfl,?_⟩;rw[I];cases B
   ·simp
   ·rw[Abj,GZ (by omega)];rfl
  unfold NL at c;by_cases d:x.Ap=(p:Int)
  ·cases m:(decide (0≤x.Bh)&&decide (x.Bh<(w.b.H.length:Int)))
   ·simp [d,NL,m]
   ·by_cases z:0<x.Bd
    ·by_cases a:x.D= -1
     ·have:=c true (by rw[m];simp [d,z,a]);simpa [d,NL,m,a,show ¬x.Bd≤0 by omega] using this
     ·cases o:(decide (0≤x.D)&&decide (x.D<(w.b.A.length:Int)))
      ·simp [d,NL,m,a,o,show ¬x.Bd≤0 by omega]
      ·obtain⟨J,K⟩:=Qp.1 o;obtain⟨y,t⟩:=Df.ix (l:=w.b.A) J (by omega);have u:w.b.A.getD x.D.toNat default=y:=by
        obtain⟨j,M⟩:∃j:Nat,x.D=(j:Int):=⟨x.D.toNat,by omega⟩
        rw[M] at t K ⊢;rw[BF (by omega)] at t;rw[Acs];simpa [Acv,show j<w.b.A.length by omega] using t
       by_cases g:y.Au=(w.b.A[p]).Au
       ·have:=c true (by rw[o,m,u,s];simp [d,z,g]);simpa [d,NL,m,a,o,t,BF v,g,show ¬x.Bd≤0 by omega] using this
       ·have:=c false (by rw[o,u,s];simp [a,g]);simpa [d,NL,m,a,o,t,BF v,g,show ¬x.Bd≤0 by omega] using this
    ·simp [d,NL,m,z,show x.Bd≤0 by omega]
  ·simp [d,NL]) N 0 [] rfl (by omega) (Abn _)
 rw[Ack] at C;rw[←C];exact e
def bD {N:Nat}(j:18446744073709551616<N) {b:AF}{W:Nat}(c:W≤64) (p:Nat) (d:List FM):XL b W p (Mw N b p d):=λe g=>by
 obtain⟨t,i,rfl⟩:=Ach.1 g;have a:=(Ac2.1 i).2;refine⟨jI (by omega) c t,by show(-3:Int)≠ -4;decide,?_,by show(0:Int)=QG _ _ (-3);unfold QG;rw[Abl (by omega),Abm rfl]⟩;show t.D= -1∨(0≤t.D∧t.D<b.A.length)
 unfold NL at a;simp only[Abq,Aca,Ab6] at a;omega
def XF (b:AF) (W p:Nat) (l:List AD):Prop:=∀e∈l,uI b W p e∧0≤e.way
def XF.snoc {b:AF}{W p:Nat}{l:List AD}(g:XF b W p l) {e:AD}(c:uI b W p e) (d:0≤e.way):XF b W p (l++[e]):=λx a=>by
 rcases Acb.1 a with a|a
 ·exact g x a
 ·rw[Acf.1 a];exact⟨c,d⟩
def dP {N:Nat}(u:18446744073709551616<N) {w:AM}{W:Nat}(Y:W≤64) (hL:w.b.C.length≤1000) (G:∀l∈w.b.C,KN w.b l) (hg:w.s.P.length=w.b.C.length) (Z:w.peaks.length=w.b.A.length) {p:Nat}(hp:p<w.b.A.length):∃l,JP N w (p:Int)=some l∧l.length≤w.b.C.length∧XF w.b W p l:=by
 unfold JP;obtain⟨l,⟨V,z⟩,e⟩:=Fs w.b.C.length (λn i l=>CP N w (p:Int) (EA N) n l i) (EA N) (λk l=>l.length≤k∧XF w.b W p l) (λn k l q=>by
  simp only[CP];rw[Fj q];rfl) (λn k l hi q=>by
  obtain⟨V,z⟩:=hi;have g:=G _ (Ab2 q);have H:k<w.s.P.length:=by omega
  have I:p<w.peaks.length:=by omega
  have v:QG w.b p (k:Int)=(w.b.C[k]).R:=by
   unfold QG;rw[Abm ⟨by omega,by omega⟩,Acs,TB q]
  simp only[CP,H1,ES,Hx];rw[FD q,Abj,BF q,Abi,A9 (by omega)];simp only[BF H,BF I,Abi];generalize w.b.C[k]=x at g v
  have d:∀(B:Int) (to:Int),(to= -1∨(0≤to∧to<w.b.A.length))→∃s',(s'.length≤k+1∧XF w.b W p s')∧chk (Ha (l.length+([(⟨to,x.R,(k:Int),(λx=>AL N B x)⟩:AD)]:List AD).length) 32) (CP N w (p:Int) (EA N) n (l++([(⟨to,x.R,(k:Int),(λx=>AL N B x)⟩:AD)]:List AD)) ((k+1:Nat):Int))=CP N w (p:Int) (EA N) n s' ((k+1:Nat):Int):=λB to c=>by
   rw[GZ (by simp;omega)];exact⟨_,⟨by simp;omega,z.snoc ⟨λy hy=>by obtain⟨t,e,h,_⟩:=Qc u Y B y hy;exact⟨t,e,h⟩,by show(k:Int)≠ -4;omega,c,v.symm⟩ (by show 0≤(k:Int);omega)⟩,rfl⟩
  have j:∀i:Int,0≤i→i<w.b.A.length→∃y,ix w.peaks i=some y:=λi h0 h1=>Df.ix h0 (by omega);obtain⟨f0,J⟩:=j x.M g.fr.1 g.fr.2;cases X:(decide (x.M=(p:Int))&&decide (x.F≠4))
  ·rw[Abk];cases K:decide (x.M=(p:Int))
   ·rw[Abk];cases hC:(decide (x.D=(p:Int))&&decide (x.F=4))
    ·exact⟨l,⟨by omega,z⟩,rfl⟩
    ·obtain⟨a,m⟩:=Xx u x f0 w.peaks[p];obtain⟨b,hb⟩:=Sf N 0 a;rw[Abj];simp only[J,Abi];rw[m,Abi,hb,Abi];exact d _ _ (.inr g.fr)
   ·have K:=Ac9 K;have h4:x.F=4:=by
     rw[Ab3 K,Bool.true_and] at X;simpa using X
    obtain⟨_,_,_,_,_,c⟩:=g.seep h4;have c:=g.to.resolve_left c;obtain⟨Q,o⟩:=j x.D c.1 c.2;obtain⟨a,m⟩:=Xx u x w.peaks[p] Q;rw[Abj];simp only[o,Abi];rw[m,Abi];exact d _ _ g.to
  ·rw[Abj];cases U:decide (x.D≠ -1)
   ·obtain⟨a,m⟩:=YI u x w.s.P[k] w.peaks[p] 0;rw[Abk,m,Abi];exact d _ _ g.to
   ·have U:=Ac9 U;have c:=g.to.resolve_left U;obtain⟨Q,o⟩:=j x.D c.1 c.2;obtain⟨a,m⟩:=YI u x w.s.P[k] w.peaks[p] Q;rw[Abj];simp only[o,Abi];rw[m,Abi];exact d _ _ g.to) N 0 [] ⟨Ab1 _,λe he=>by cases he⟩ (by omega) (Abn _)
 exact⟨l,e,V,z⟩
end Go.Proofs.YtabonambpbofgaaGreat
