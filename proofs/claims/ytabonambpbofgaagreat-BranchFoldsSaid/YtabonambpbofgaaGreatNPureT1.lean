import Derived.Test.YtabonambpbofgaaGreatNPureEx
import Derived.Test.YtabonambpbofgaaGreatNPureE2
namespace Go.Proofs.YtabonambpbofgaaGreat
set_option linter.all false
open Go.RowKit
def pt (v n d:Int):Int:=(vM v n d).1
def sl (N:Nat) (a b:Int):Int:=(Gu N a b).getD 0
def slN {b a q r:Nat}(hd:0<a) (g:b≤a) (c:q=b*1099511627776/a) (d:r=b*1099511627776%a):q≤1099511627776∧b*1099511627776=q*a+r∧r<a:=by
 refine⟨?_,by rw[c,d];exact Yp _ _,by rw[d];exact Aeg _ hd⟩;rw[c];exact Nat.div_le_of_le_mul (by rw[Ae1 a];rw[Ae1 b];exact Nat.mul_le_mul_left _ g)
structure vT (N:Nat) (b:AF) (l:BC):Prop where
 base:KY b l
 gate:l.G=0→Id N l.Ae.Aw l.As=some true∧Id N l.As l.Ae.Ax=some true∧(0≤l.W∧l.W≤64)∧(0≤l.Ag∧l.Ag≤l.W)∧(0≤l.Bc∧l.Bc≤1125899906842624)∧(l.Al=0→l.Aq=0)∧(l.E≠ -1∨l.Al=0)
 weir:l.G=1∨l.G=5→0≤l.Bd∧l.Bd≤1125899906842624
 pump:l.G=2→(0≤l.Aa∧l.Aa≤1125899906842624)∧(1≤l.W∧l.W≤64)∧(0≤l.Ag∧l.Ag≤l.W)
 siph:l.G=3→(0≤l.Az∧l.Az≤1125899906842624)∧(0≤l.Ba∧l.Ba≤1125899906842624)∧l.Ba<l.Az
 seep:l.G=4→(l.Al=0→l.Aq=0)
 none_:l.G≠0→l.G≠2→l.W=0∧l.Ag=0
def Yf {a b:Int}(d:UY a b=true):b=0→a=0:=by
 intro c;simp only[UY,Acj,Ac5,Ac1] at d;exact d.2.resolve_left λd=>d c
def XZ {N:Nat}(t:18446744073709551616<N) {b:AF}{l:BC}(d:KY b l) (V:Gd N l=some true) (a:Fh N l=some true):vT N b l:=by
 have H:=d.kind;have k:l.G≠0→l.G≠2→l.W=0∧l.Ag=0:=by
  intro h0 g;unfold Fh at a;rw[Ack h0,Acx g] at a;simp only[Bool.not_false,Bool.true_and] at a;cases n:(decide (0<(l.As.length:Int))||decide (0<(l.Ae.Aw.length:Int))||decide (0<(l.Ae.Ax.length:Int))||decide (l.Bc≠0)) with
  |true=>rw[n] at a;cases a
  |false=>
   rw[n,Acd] at a;cases i:(decide (l.W≠0)||decide (l.Ag≠0)) with
   |true=>rw[i] at a;cases a
   |false=>
    simp only[Ac9,Ac2] at i;exact⟨Decidable.not_not.1 i.1,Decidable.not_not.1 i.2⟩
 unfold Gd at V;by_cases k0:l.G=0
 ·obtain⟨n,i,A,I,J⟩:=d.gate k0;obtain⟨K,u⟩:=Ql t l.Ae.Aw l.As;obtain⟨M,v⟩:=Ql t l.As l.Ae.Ax;rw[Acx k0,Acc,QY (by omega) n,QY (by omega) i,QY (by omega) A] at V;simp only[u,v,N1,Mi,Q9,Acb,Gw,QZ] at V;have V:=Acg V;simp only[Acj,Ac5,Ac1] at V;obtain⟨⟨⟨⟨⟨⟨⟨⟨⟨_,_⟩,_⟩,o⟩,q⟩,B⟩,C⟩,D⟩,F⟩,s⟩:=V;subst o;subst q;exact⟨d,λ_=>⟨u,v,LN B,LN C,LP D,Yf F,s⟩,λV=>by omega,λV=>by omega,λV=>by omega,λV=>by omega,k⟩
 ·rw[Ack k0,Acd] at V;have w:∀c:Bool,(c=true↔l.G=1∨l.G=5)→EW N l c=some true→vT N b l:=by
   intro c x V;unfold EW at V;simp only[N1,Mi,Q9,Acb,Gw,QZ] at V;cases c
   ·have Q:¬(l.G=1∨l.G=5):=λV=>by have:=x.2 V;cases this
    rw[Acd] at V;by_cases y:l.G=2
    ·rw[Acx y,Acc] at V;have V:=Acg V;simp only[Acj] at V;obtain⟨⟨m,g⟩,j⟩:=V;exact⟨d,λV=>by omega,λV=>by omega,λ_=>⟨LP m,LN g,LN j⟩,λV=>by omega,λV=>by omega,k⟩
    ·rw[Ack y,Acd] at V;by_cases z:l.G=3
     ·rw[Acx z,Acc] at V;have V:=Acg V;simp only[Acj,Ac1] at V;obtain⟨⟨⟨⟨m,g⟩,j⟩,o⟩,q⟩:=V;exact⟨d,λV=>by omega,λV=>by omega,λV=>by omega,λ_=>⟨LP j,LP o,q⟩,λV=>by omega,k⟩
     ·rw[Ack z,Acd] at V;have V:=Acg V;simp only[Acj,Ac1] at V;obtain⟨⟨⟨m,g⟩,j⟩,o⟩:=V;exact⟨d,λV=>by omega,λV=>by omega,λV=>by omega,λV=>by omega,λ_=>Yf j,k⟩
   ·have U:=x.1 rfl;rw[Acc] at V;have V:=Acg V;simp only[Acj] at V;obtain⟨⟨m,g⟩,j⟩:=V;exact⟨d,λV=>by omega,λ_=>LP m,λV=>by omega,λV=>by omega,λV=>by omega,k⟩
  by_cases p:l.G=1
  ·rw[Acx p,Acc] at V;exact w true (by simp [p]) V
  ·rw[Ack p,Acd] at V;exact w _ (by simp [p]) V
def Zo {N:Nat}(c:18446744073709551616<N) {b:AF}(d:II b) (p:∀l∈b.C,KY b l) (z:FH N b=some true):∀l∈b.C,vT N b l:=by
 have v:=d.pl;have w:=d.li;unfold FH at z;rcases J1 b.C.length (Cc N b (Dr N)) (Dr N) (λi=>∀l,b.C[i]? =some l→vT N b l) (λn k z=>by
  simp only[Cc];rw[Fj z];rfl) (λn k z=>by
  simp only[Cc];obtain⟨x,g,y⟩:=Uc c b.C[k];obtain⟨q,j⟩:=UE N b.C[k];rw[FA z,Acc,BG z];simp only[Acb,N1,Q7 N _ (show b.A.length<4611686018427387904 by omega),Ra N b _ _ (show b.A.length<4611686018427387904 by omega),g,j,Gw,L3,BA (show k<4611686018427387904 by omega)];generalize m:(_|| !q)=B
  cases B
  ·simp only[Ac9,Aeu] at m;obtain⟨⟨_,s⟩,t⟩:=m;subst s;subst t;refine .inr ⟨λl a=>?_,rfl⟩;have:l=b.C[k]:=by simpa [z] using a.symm
   rw[this];exact XZ c (p _ (Acw z)) g j
  ·exact .inl rfl) N 0 (by omega) (Aci _) with u|⟨hp,_⟩
 ·rw[show Cc N b (Dr N) N 0=some false from u] at z;cases z
 ·intro l a;obtain⟨i,o,rfl⟩:=Af4.1 a;exact hp i (Aci _) o _ (by simp [o])
def Holds (n:Nat) (s:List Int) (g:Nat→Int):Prop:=s.length=n∧∀i,i<n→s[i]? =some (g i)
def Holds.ix {n:Nat}{s:List Int}{g:Nat→Int}(c:Holds n s g) {a:Int}(h0:0≤a) (b:a<n):ix s a=some (g a.toNat):=by
 unfold Go.Proofs.YtabonambpbofgaaGreat.ix;rw[Ace (by omega)];exact c.2 _ (by omega)
def Holds.upd {n:Nat}{s:List Int}{g:Nat→Int}(j:Holds n s g) {a:Int}(h0:0≤a) (c:a<n) (v:Int):Holds n (upd s a v) (λi=>if (i:Int)=a then v else g i):=by
 refine⟨by rw[L6,j.1],λi b=>?_⟩;unfold Go.Proofs.YtabonambpbofgaaGreat.upd;rw[List.getElem?_set];have d:=j.1;show _=some (if (i:Int)=a then v else g i)
 by_cases e:(i:Int)=a
 ·rw[Acf (by omega),Acf (by omega),Acf e]
 ·rw[Ace (by omega),Ace e];exact j.2 i b
def Holds.congr {n:Nat}{s:List Int}{g a:Nat→Int}(c:Holds n s g) (e:∀i,i<n→g i=a i):Holds n s a:=⟨c.1,λi b=>(c.2 i b).trans (Ach some (e i b))⟩
def Ab0 (s:AI) (k:Nat):A3:=s.P.getD k default
structure gW (W:Nat) (out:List Int) (ms:List AX) (sn:List AT) (M:Nat):Prop where
 out:out.length=W
 mv:ms.length≤M
 sn:sn.length≤M
def gW.next {b:AF}{H:Int}{N W p M:Nat}{o m:List (List Int)}{out a:List Int}{i d:List AX}{j g:List AT}{l:List AX}(q:gW W out i j M) (k:Vg b H N W p o out i j m a d g l) {c:Nat}(n:l.length≤c):gW W a d g (M+c):=
 ⟨k.ol,by rw[k.ms_,Ac6];have:=q.mv;omega,by
  rw[k.sn_,Ac6];have:=List.length_filterMap_le (Mo b H) l;have:=q.sn;omega⟩
def gW.le {W M a:Nat}{out:List Int}{b:List AX}{c:List AT}(g:gW W out b c M) (d:M≤a):gW W out b c a:=⟨g.out,Adq g.mv d,Adq g.sn d⟩
def VA {α}{c:Prop}[Decidable c] {x:α}:(if c then [] else [x]).length≤1:=by split<;>simp
structure Abg (b:AF) (s:AI):Prop where
 own:Jw b.A.length b.J.length s.H
 que:QX b.A.length b.J.length s.I
 tot:GG s.H+He s.I≤1125899906842624
 rem:s.N.length=b.A.length
 gates:s.P.length=b.C.length
 inn:s.D.length=b.J.length
 inn0:∀x∈s.D,0≤x
 inns:s.D.sum≤1152921504606846976
 out:s.O.length=b.J.length
structure zS (b:AF) (H:Int) (N W k:Nat) (o:List (List Int)) (out:List Int) (ms:List AX) (o':List (List Int)) (out':List Int) (ms':List AX) (sn':List AT) (l:List AX):Prop where
 mv:∀m∈l,∃p,p<k∧Aaj b H W p m
 ord:l.Pairwise λa c=>a.M≤c.M
 ms_:ms'=ms++l
 own:o'=SU o l
 out_:out'=T3 N out l
 sn_:sn'=l.filterMap (Mo b H)
 val:Rq l o
 ox:Jw b.A.length W o'
 ol:out'.length=W
 tot:GG o'+Lz l=GG o
def zS.next {b:AF}{H:Int}{N W k:Nat}{o y t:List (List Int)}{out g d:List Int}{z u n:List AX}{v s:List AT}{l A:List AX}(I:zS b H N W k o out z y g u v l) (q:Vg b H N W k y g u v t d n s A):zS b H N W (k+1) o out z t d n s (l++A):=
 ⟨λm w=>(Ac7.1 w).elim (λw=>by obtain⟨p,B,x⟩:=I.mv m w;exact⟨p,by omega,x⟩) (λw=>⟨k,by omega,q.mv m w⟩),
  List.pairwise_append.2 ⟨I.ord,Af0.2 λi j C D _=>by
  rw[(q.mv _ (Acw C)).fr,(q.mv _ (Acw D)).fr];exact Add _,λa F c G=>by
  obtain⟨p,B,x⟩:=I.mv a F;rw[x.fr,(q.mv c G).fr];omega⟩,
  by rw[q.ms_,I.ms_,Ado],by rw[q.own,I.own];unfold SU;rw[Afe],by rw[q.out_,I.out_];unfold T3;rw[Afe],by rw[q.sn_,I.sn_,List.filterMap_append],I.val.app (by rw[←I.own];exact q.val),q.ox,q.ol,by rw[WV];have:=I.tot;have:=q.tot;omega⟩
def UM {N:Nat}(a:8000000000000<N) (p:List Int) (W:Nat):∃v,Kb N p (W:Int)=some v∧(v=true→PX W p∧W≤16):=by
 unfold Kb;cases b:((decide (0≤(W:Int))&&decide ((W:Int)≤16))&&decide ((p.length:Int)=(W:Int)))
 ·exact⟨_,rfl,λd=>by cases d⟩
 ·simp only[Acj,Ac1] at b;obtain⟨v,c,k⟩:=Zh a (p:=p) (by omega);rw[Acc,c];exact⟨_,rfl,λd=>⟨⟨by omega,(k d).1,(k d).2⟩,by omega⟩⟩
def V8 {N:Nat}(q:8000000000000<N) {l:List Int}(t:l.length≤1000) {m:Int}(d:0≤m∧m≤2305843009213693952):∃r,Jn N l m=some r∧(r.2=true→(∀x∈l,0≤x)∧l.sum≤m∧r.1=l.sum):=by
 unfold Jn;rcases Na l.length (λn i s=>Gf N l m (H8 N) n s i) (H8 N) (some (0,false)) (λk s=>(∀x∈l.take k,0≤x)∧s=(l.take k).sum∧s≤m∧0≤s) (λn k s a=>by
  simp only[Gf];rw[Fj a];rfl) (λn k s g a=>by
  obtain⟨b,c,j,o⟩:=g;simp only[Gf];rw[FA a,Acc,BG a,Acb,BA (by omega),EM (n:=m-s) (by omega) (by omega)];cases p:(decide (l[k]<0)||decide (m-s<l[k]))
  ·simp only[Ac9,Ac2] at p;rw[Acd,EM (n:=s+l[k]) (by omega) (by omega)];exact .inr ⟨_,⟨L7 a b (by omega),by rw[Kk a,c],by omega,by omega⟩,rfl⟩
  ·exact .inl rfl) N 0 0 ⟨by simp,rfl,d.1,Add _⟩ (by omega) (Aci _) with e|⟨s,⟨b,c,j,o⟩,e⟩
 ·exact⟨_,e,λu=>by cases u⟩
 ·rw[Adk] at b c;exact⟨_,e,λ_=>⟨b,by omega,c⟩⟩
def Zn {N:Nat}(j:8000000000000<N) (b:AF) (s:AI) (W:s.H.length≤1000) (X:s.I.length≤4000000000000):∃r,Km N b s=some r∧(r.2=true→(∀x∈s.H,PX b.J.length x)∧(∀l∈s.I,(PX b.J.length l.V∧0≤l.E∧l.E<b.A.length)∧s.B≤l.At∧0<l.V.sum)∧r.1=GG s.H+He s.I∧r.1≤1125899906842624):=by
 unfold Km;rcases Na s.H.length (λn i t=>GL N b s (GM N b s) n t i) (GM N b s) (some (0,false)) (λk t=>(∀x∈s.H.take k,PX b.J.length x)∧t=GG (s.H.take k)∧0≤t∧t≤1125899906842624) (λn k t a=>by
  simp only[GL];rw[Fj a];rfl) (λn k t q a=>by
  obtain⟨m,w,D,F⟩:=q;simp only[GL];obtain⟨v,y,z⟩:=UM j s.H[k] b.J.length;rw[FA a,Acc,BG a,Acb,y,Acb,BA (by omega)];cases v
  ·exact .inl rfl
  ·obtain⟨c,d⟩:=z rfl;have M:=c.mv;have Q:=c.sum0;rw[Adg,Acd,c.total j (by omega),Acb,EM (n:=t+(s.H[k]).sum) (by omega) (by omega)];by_cases g:1125899906842624<t+(s.H[k]).sum
   ·rw[Acx g];exact .inl rfl
   ·rw[Ack g];exact .inr ⟨_,⟨L7 a m c,by rw[Nz a,w],by omega,by omega⟩,rfl⟩) N 0 0 ⟨by simp,rfl,Add _,by decide⟩ (by omega) (Aci _) with e|⟨t,⟨m,w,D,F⟩,e⟩
 ·exact⟨_,e,λZ=>by cases Z⟩
 ·rw[show GL N b s (GM N b s) N 0 0=GM N b s t from e];rw[Adk] at m w;unfold GM;rcases Na s.I.length (λn i t=>G7 N b s (Ig N) n t i) (Ig N) (some (0,false)) (λk u=>(∀l∈s.I.take k,(PX b.J.length l.V∧0≤l.E∧l.E<b.A.length)∧s.B≤l.At∧0<l.V.sum)∧u=t+He (s.I.take k)∧0≤u∧u≤1125899906842624) (λn k t a=>by
   simp only[G7];rw[Fj a];rfl) (λn k u q a=>by
   obtain⟨o,C,U,G⟩:=q;simp only[G7];obtain⟨v,y,z⟩:=UM j (s.I[k]).V b.J.length;rw[FA a,Acc,BG a,BA (by omega)];simp only[Acb,Nw,y,Gw];cases g:cond (decide ((s.I[k]).At<s.B)) true (!(decide (0≤(s.I[k]).E)&&decide ((s.I[k]).E<(b.A.length:Int))))
   ·rw[L3,Ac9] at g;obtain⟨K,p⟩:=g;have K:=Af1 K;rw[Aeu] at p;obtain⟨p,Y⟩:=Q8.1 p;cases v
    ·exact .inl rfl
    ·obtain⟨c,d⟩:=z rfl;have M:=c.mv;have Q:=c.sum0;simp only[Adg,Acd];rw[c.total j (by omega),Acb,EM (n:=u+(s.I[k]).V.sum) (by omega) (by omega)];cases hd:(decide ((s.I[k]).V.sum≤0)||decide (1125899906842624<u+(s.I[k]).V.sum))
     ·simp only[Ac9,Ac2] at hd;exact .inr ⟨_,⟨L7 a o ⟨⟨c,p,by omega⟩,by omega,by omega⟩,by rw[M3 a,C];omega,by omega,by omega⟩,rfl⟩
     ·exact .inl rfl
   ·exact .inl rfl) N 0 t ⟨by simp,by simp [He],D,F⟩ (by omega) (Aci _) with d|⟨u,⟨o,C,U,G⟩,d⟩
  ·exact⟨_,d,λZ=>by cases Z⟩
  ·rw[Adk] at o C;exact⟨_,d,λ_=>⟨m,o,by show u=_;omega,G⟩⟩
structure Ab4 (b:AF) (s:AI):Prop where
 x:Abg b s
 hour:0≤s.B∧s.B≤16777216
 gts:∀(k:Nat) l g,b.C[k]? =some l→s.P[k]? =some g→(0≤g.Ab∧g.Ab≤l.W)∧(0≤g.Ac∧g.Ac≤l.W)
 at_:∀l∈s.I,s.B≤l.At∧0<l.V.sum
 out0:∀x∈s.O,0≤x
 outs:s.O.sum≤s.D.sum+1125899906842624-(GG s.H+He s.I)
structure Zz (b:AF) (s:AI):Prop where
 rg:Ab4 b s
 rem:∀(k:Nat) p m,b.A[k]? =some p→s.N[k]? =some m→0≤m∧m≤max 0 (p.T-1)
 opn:∀(k:Nat) l g,b.C[k]? =some l→s.P[k]? =some g→g.Am=true→l.G=5∨l.G=3
def ZW {N:Nat}(Q:8000000000000<N) {b:AF}(U:II b) (w:∀p∈b.A,I2 b p) (s:AI) (hq:s.I.length≤4000000000000):∃v,Ka N b s=some v∧(v=true→Zz b s):=by
 have hP:=U.pl;have hL:=U.li;have hW:=U.own;unfold Ka;generalize hB:(_||decide ((s.O.length:Int)≠(b.J.length:Int)))=B
 cases B
 ·simp only[Ac9,Ac2,ne_eq,Decidable.not_not] at hB;obtain⟨⟨⟨⟨⟨⟨b1,b2⟩,b3⟩,b4⟩,b5⟩,b6⟩,b7⟩:=hB;rw[Acd];rcases Na b.A.length (λn i (_:Unit)=>G1 N b s (G3 N b s) n i) (λ_=>G3 N b s) (some false) (λi _=>∀(k:Nat) p m,k<i→b.A[k]? =some p→s.N[k]? =some m→0≤m∧m≤max 0 (p.T-1)) (λn k t c=>by
   simp only[G1];rw[Fj c];rfl) (λn k t V c=>by
   simp only[G1];have y:k<s.N.length:=by omega
   have hd:=(w _ (Acw c)).den;unfold J0 at hd;rw[FA c,Acc,BG c,BG y,BA (by omega)];simp only[Acb,Gw,L3];rw[EM (n:=(b.A[k]).T-1) (by omega) (by omega)];cases M:(decide (s.N[k]<0)||decide (max 0 ((b.A[k]).T-1)<s.N[k]))
   ·simp only[Ac9,Ac2] at M;refine .inr ⟨(),λj p m hj q z=>?_,rfl⟩;by_cases d:j=k
    ·subst d;rw[Acn c] at q;rw[Acn y] at z;cases q;cases z;omega
    ·exact V j p m (by omega) q z
   ·exact .inl rfl) N 0 () (λk p m h=>by omega) (by omega) (Aci _) with e|⟨_,i1,e⟩
  ·exact⟨_,e,λh=>by cases h⟩
  ·rw[show G1 N b s (G3 N b s) N 0=G3 N b s from e];unfold G3;rcases Na b.C.length (λn i (_:Unit)=>G0 N b s (G2 N b s) n i) (λ_=>G2 N b s) (some false) (λi _=>∀(k:Nat) l g,k<i→b.C[k]? =some l→s.P[k]? =some g→((0≤g.Ab∧g.Ab≤l.W)∧(0≤g.Ac∧g.Ac≤l.W))∧(g.Am=true→l.G=5∨l.G=3)) (λn k t c=>by
    simp only[G0];rw[Fj c];rfl) (λn i t V c=>by
    simp only[G0];have y:i<s.P.length:=by omega
    rw[FA c,Acc,BG c,BG y,BA (by omega)];simp only[Acb];cases M:(((decide ((s.P[i]).Ab<0)||decide ((b.C[i]).W<(s.P[i]).Ab))||decide ((s.P[i]).Ac<0))||decide ((b.C[i]).W<(s.P[i]).Ac))
    ·simp only[Ac9,Ac2] at M;obtain⟨⟨⟨c1,c2⟩,c3⟩,c4⟩:=M;rw[Acd];cases X:(((s.P[i]).Am&&decide ((b.C[i]).G≠5))&&decide ((b.C[i]).G≠3))
     ·refine .inr ⟨(),λk l g ae a o=>?_,rfl⟩;by_cases d:k=i
      ·subst d;rw[Acn c] at a;rw[Acn y] at o;cases a;cases o;refine⟨⟨⟨by omega,by omega⟩,by omega,by omega⟩,λY=>?_⟩;rw[Y,Bool.true_and,Bool.and_eq_false_iff] at X;simp only[Ac2,ne_eq,Decidable.not_not] at X;exact X
      ·exact V k l g (by omega) a o
     ·exact .inl rfl
    ·exact .inl rfl) N 0 () (λk l g h=>by omega) (by omega) (Aci _) with e|⟨_,i2,e⟩
   ·exact⟨_,e,λh=>by cases h⟩
   ·rw[show G0 N b s (G2 N b s) N 0=G2 N b s from e];unfold G2;obtain⟨r,er,Z⟩:=Zn Q b s (by omega) hq;rw[er,Acb];cases aa:r.2
    ·exact⟨_,rfl,λh=>by cases h⟩
    ·obtain⟨Z,k2,k3,k4⟩:=Z aa;have F:Jw b.A.length b.J.length s.H:=⟨by omega,Z⟩
     have K:QX b.A.length b.J.length s.I:=λl a=>(k2 l a).1;have af:=F.sum0;have ab:=(IR K 0).2;rw[Ad8,show He ([]:List AT)=0 from rfl] at ab;obtain⟨u,hu,ku⟩:=V8 Q (l:=s.D) (by omega) (m:=1152921504606846976) (by decide);rw[Adg,Acd,hu,Acb];cases ac:u.2
     ·exact⟨_,rfl,λh=>by cases h⟩
     ·obtain⟨u1,u2,u3⟩:=ku ac;have u0:=Ki u1;rw[EM (n:=u.1+1125899906842624) (by omega) (by omega),EM (n:=u.1+1125899906842624-r.1) (by omega) (by omega)];obtain⟨x,hx,kx⟩:=V8 Q (l:=s.O) (by omega) (m:=u.1+1125899906842624-r.1) ⟨by omega,by omega⟩;rw[Adg,Acd,hx,Acb];refine⟨_,rfl,λad=>?_⟩;obtain⟨x1,x2,x3⟩:=kx ad;exact⟨⟨⟨F,K,by omega,by omega,by omega,by omega,u1,u2,by omega⟩,⟨by omega,by omega⟩,λk l g a o=>(i2 k l g (Acq.1 a).1 a o).1,λl a=>(k2 l a).2,x1,by omega⟩,λk p m q z=>i1 k p m (Acq.1 q).1 q z,λk l g a o=>(i2 k l g (Acq.1 a).1 a o).2⟩
 ·exact⟨_,rfl,λh=>by cases h⟩
structure W8 (l:BC) (g:A3):Prop where
 pos:0≤g.Ab∧g.Ab≤l.W
 tgt:0≤g.Ac∧g.Ac≤l.W
 opn:g.Am=true→l.G=5∨l.G=3
def OU (b:AF) (a:List A3):Prop:=a.length=b.C.length∧∀(k:Nat) l g,b.C[k]? =some l→a[k]? =some g→W8 l g
def To (b:AF):Prop:=∀l∈b.C,(0≤l.W∧l.W≤64)∧0≤l.Ag∧l.Ag≤l.W
def OU.at_ {b:AF}{a:List A3}(j:OU b a) {i:Int}{l:BC}{g:A3}(c:ix b.C i=some l) (d:ix a i=some g):W8 l g:=j.2 _ _ _ (FB c).2 (FB d).2
def OU.upd {b:AF}{j:List A3}(p:OU b j) {i:Int}{l:BC}{g:A3}(d:ix b.C i=some l) (m:W8 l g):OU b (upd j i g):=by
 obtain⟨h0,d⟩:=FB d;refine⟨by rw[M7];exact p.1,λk n o c a=>?_⟩;unfold Go.Proofs.YtabonambpbofgaaGreat.upd at a;by_cases e:i.toNat=k
 ·rw[e] at d a;rw[d] at c;cases c;rw[Aer (by rw[p.1];exact(Acq.1 d).1)] at a;cases a;exact m
 ·rw[Ael e] at a;exact p.2 k n o c a
def W8.fault {N:Nat}{l:BC}{g a:A3}{k:Int}(m:W8 l g) (e:IS N l g k=some a):W8 l a:=by
 have d:∀c:Bool,Hj N l g k (G4 N g) c=some a→W8 l a:=λc e=>by
  unfold Hj at e;cases c
  ·cases e;exact⟨m.pos,m.tgt,m.opn⟩
  ·by_cases b:l.G=5
   ·rw[Acx b] at e;cases e;exact⟨m.pos,m.tgt,λ_=> .inl b⟩
   ·rw[Ack b] at e;cases e;exact⟨m.pos,m.tgt,m.opn⟩
 unfold IS at e;cases h0:decide (k=0)<;>rw[h0] at e
 ·cases i:decide (k=1)<;>rw[i] at e
  ·cases j:decide (k=2)<;>rw[j] at e
   ·exact d (decide (k=3)) e
   ·exact d true e
  ·cases e;exact⟨m.pos,m.tgt,m.opn⟩
 ·cases e;exact⟨m.pos,m.tgt,m.opn⟩
def W8.aim {N:Nat}{l:BC}{g a:A3}{t:Int}(c:0≤l.W) (o:W8 l g) (e:J2 N l g t=some a):W8 l a:=by
 obtain⟨x,d,i,n,j⟩:=gT N l g t;have b:a=x:=Acg (e.symm.trans d);have k:a.Am=g.Am:=by
  unfold J2 at e;cases m:decide (l.W≠0)<;>rw[m] at e
  ·cases e;rfl
  ·obtain⟨y,_,e⟩:=bd e;cases e;rfl
 exact⟨by rw[b,i];exact o.pos,by rw[b];exact j c o.tgt.1 o.tgt.2,by rw[k];exact o.opn⟩
def W8.move {N:Nat}{l:BC}{g a:A3}(b:(0≤l.W∧l.W≤64)∧0≤l.Ag∧l.Ag≤l.W) (k:W8 l g) (e:Ib N l g=some a):W8 l a:=by
 have i:gM N l g=a:=Acg ((eH N l g).symm.trans e);have c:=(rP N l g b.1.2 b.2 k.pos k.tgt).1;rw[i] at c;have d:a.Ac=g.Ac∧a.Am=g.Am:=by
  unfold Ib at e;cases j:g.Ay<;>rw[j] at e
  ·rw[Acd] at e;obtain⟨_,_,e⟩:=bd e;obtain⟨_,_,e⟩:=bd e;obtain⟨_,_,e⟩:=bd e;obtain⟨_,_,e⟩:=bd e;cases e;exact⟨rfl,rfl⟩
  ·cases e;exact⟨rfl,rfl⟩
 exact⟨c,by rw[d.1];exact k.tgt,by rw[d.2];exact k.opn⟩
def W8.siphon {N:Nat}{l:BC}{g b:A3}{v:Int}(d:W8 l g) (e:Hz N l g v=some b):W8 l b:=by
 unfold Hz at e;by_cases a:l.G=3
 ·rw[show decide (l.G≠3)=false by simp [a],Acd] at e;cases c:decide (l.Az≤v)<;>rw[c] at e
  ·cases hd:decide (v≤l.Ba)<;>rw[hd] at e<;>cases e
   ·exact⟨d.pos,d.tgt,λ_=> .inr a⟩
   ·exact⟨d.pos,d.tgt,λ_=> .inr a⟩
  ·cases e;exact⟨d.pos,d.tgt,λ_=> .inr a⟩
 ·rw[show decide (l.G≠3)=true by simp [a],Acc] at e;cases e;exact d
def UQ {N:Nat}{w:AM}(j:To w.b):∀(n:Nat) (i:Int) {a r:List A3},OU w.b a→D1 N w n i a=some r→OU w.b r
 |0,_,_,_,_,e=>by cases e
 |n+1,i,a,r,q,e=>by
  simp only[D1] at e;cases k:decide (i<(w.b.C.length:Int))<;>rw[k] at e
  ·cases e;exact q
  ·rw[Acc] at e;obtain⟨l,c,e⟩:=bd e;obtain⟨o,_,e⟩:=bd e;obtain⟨g,m,e⟩:=bd e;obtain⟨p,d,e⟩:=bd e;obtain⟨_,_,e⟩:=bd e;obtain⟨_,_,e⟩:=bd e;exact UQ j n _ (q.upd c ((q.at_ c m).move (j l (Adn (FB c).2)) d)) e
def Ri {N:Nat}{w:AM}(a:To w.b):∀(n:Nat) (i:Int) {c r:List A3},OU w.b c→C8 N w (Dc N w) n i c=some r→OU w.b r
 |0,_,_,_,_,e=>by cases e
 |n+1,i,c,r,q,e=>by
  simp only[C8,HA] at e;cases k:decide (i<(w.in_.Y.length:Int))<;>rw[k] at e
  ·exact UQ a N 0 q e
  ·rw[Acc] at e;obtain⟨x,_,e⟩:=bd e;obtain⟨y,_,e⟩:=bd e;cases y with
   |false=>exact Ri a n _ q e
   |true=>
    rw[Acc] at e;obtain⟨l,d,e⟩:=bd e;obtain⟨o,_,e⟩:=bd e;obtain⟨g,m,e⟩:=bd e;obtain⟨p,j,e⟩:=bd e;obtain⟨_,_,e⟩:=bd e;obtain⟨_,_,e⟩:=bd e;exact Ri a n _ (q.upd d ((q.at_ d m).aim (a l (Adn (FB d).2)).1.1 j)) e
def Rj {N:Nat}{w:AM}(a:To w.b):∀(n:Nat) (i:Int) {c r:List A3},OU w.b c→C9 N w (Dd N w) n i c=some r→OU w.b r
 |0,_,_,_,_,e=>by cases e
 |n+1,i,c,r,q,e=>by
  simp only[C9,HB] at e;cases k:decide (i<(w.in_.X.length:Int))<;>rw[k] at e
  ·exact Ri a N 0 q e
  ·rw[Acc] at e;obtain⟨x,_,e⟩:=bd e;obtain⟨y,_,e⟩:=bd e;cases y with
   |false=>exact Rj a n _ q e
   |true=>
    rw[Acc] at e;obtain⟨l,j,e⟩:=bd e;obtain⟨o,_,e⟩:=bd e;obtain⟨g,m,e⟩:=bd e;obtain⟨p,d,e⟩:=bd e;obtain⟨_,_,e⟩:=bd e;obtain⟨_,_,e⟩:=bd e;exact Rj a n _ (q.upd j ((q.at_ j m).fault d)) e
def VR {N:Nat}{w:AM}{y:List (List Int)×List AT}{o:List (List Int)}{j:List Int}:∀(n:Nat) (i:Int) {a:List A3}{r:List (List Int)×List AT×List A3×List Int},OU w.b a→Co N w y o j n i a=some r→OU w.b r.2.2.1
 |0,_,_,_,_,e=>by cases e
 |n+1,i,a,r,t,e=>by
  simp only[Co,F5] at e;cases k:decide (i<(w.b.C.length:Int))<;>rw[k] at e
  ·cases e;exact t
  ·rw[Acc] at e;obtain⟨l,d,e⟩:=bd e;cases m:decide (l.G=3)<;>rw[m] at e
   ·exact VR n _ t e
   ·rw[Acc] at e;obtain⟨q,_,e⟩:=bd e;obtain⟨g,p,e⟩:=bd e;obtain⟨_,_,e⟩:=bd e;obtain⟨v,_,e⟩:=bd e;obtain⟨s,c,e⟩:=bd e;obtain⟨_,_,e⟩:=bd e;obtain⟨_,_,e⟩:=bd e;exact VR n _ (t.upd d ((t.at_ d p).siphon c)) e
def Yt {N:Nat}{w:AM}{y:List (List Int)×List AT}:∀(n:Nat) (i:Int) {o:List (List Int)}{a:List Int}{r:List (List Int)×List AT×List A3×List Int},OU w.b w.s.P→DA N w y (DP N w y) n i o a=some r→OU w.b r.2.2.1
 |0,_,_,_,_,_,e=>by cases e
 |n+1,i,o,a,r,d,e=>by
  simp only[DA] at e;cases c:decide (i<(w.b.A.length:Int))<;>rw[c] at e
  ·exact VR N 0 d e
  ·rw[Acc] at e
   iterate 12 (replace e:=(bd e).choose_spec.2)
   exact Yt n _ d e
def VX (b:AF) (rem:List Int):Prop:=rem.length=b.A.length∧∀(k:Nat) p m,b.A[k]? =some p→rem[k]? =some m→0≤m∧m≤max 0 (p.T-1)
def VX.upd {b:AF}{rem:List Int}(n:VX b rem) {i:Int}{p:Cj}{m:Int}(d:ix b.A i=some p) (g:0≤m∧m≤max 0 (p.T-1)):VX b (upd rem i m):=by
 obtain⟨h0,d⟩:=FB d;refine⟨by rw[M7];exact n.1,λk j l c a=>?_⟩;unfold Go.Proofs.YtabonambpbofgaaGreat.upd at a;by_cases e:i.toNat=k
 ·rw[e] at d a;rw[d] at c;cases c;rw[Aer (by rw[n.1];exact(Acq.1 d).1)] at a;cases a;exact g
 ·rw[Ael e] at a;exact n.2 k j l c a
def Zf {N:Nat}(g:18446744073709551616<N) {a:Cj}(hd:0≤a.T∧a.T≤1125899906842624) {v m:Int}{y:Int×Int}(e:Je N a v m=some y):0≤y.2∧y.2≤max 0 (a.T-1):=by
 unfold Je at e;rw[O5 g,Acb] at e;unfold vM at e;split at e
 ·rename_i i;obtain⟨_,_,⟨j,k⟩,_⟩:=i;have l:=Int.emod_nonneg (v*a.Aa) (show a.T≠0 by omega);have o:=Int.emod_lt_of_pos (v*a.Aa) (show 0<a.T by omega);have d:∀b,0≤b→b<a.T→Hq N a (v*a.Aa/a.T,v*a.Aa%a.T,true) b=some y→0≤y.2∧y.2≤max 0 (a.T-1):=λb h0 p e=>by
   unfold Hq at e;simp only at e;rw[EM (n:=v*a.Aa%a.T+b) (by omega) (by omega)] at e;by_cases q:v*a.Aa%a.T+b<a.T
   ·rw[Acx q,Acc] at e;cases e;show 0≤v*a.Aa%a.T+b∧v*a.Aa%a.T+b≤_
    omega
   ·rw[Ack q,Acd,EM (n:=v*a.Aa%a.T+b-a.T) (by omega) (by omega)] at e;cases e;show 0≤v*a.Aa%a.T+b-a.T∧v*a.Aa%a.T+b-a.T≤_
    omega
  simp only[Adg,Acd] at e;cases c:(decide (0≤m)&&decide (m<a.T))<;>rw[c] at e
  ·exact d 0 (by omega) (by omega) e
  ·simp only[Acj,Ac1] at c;exact d m c.1 c.2 e
 ·simp only[Bool.not_false,Acc] at e;cases e;show(0:Int)≤0∧(0:Int)≤_
  omega
def UR {N:Nat}{w:AM}{p:Int}{c:List AC}{kj:List (List Int)→List Int→List AX→List AT→Option (List (List Int)×List Int×List Int×List AX×List AT)}:∀(n:Nat) (i:Int) {o:List (List Int)}{out:List Int}{a:List AX}{b:List AT}{r},De N w p c kj n i o out a b=some r→∃o out a b,kj o out a b=some r
 |0,_,_,_,_,_,_,e=>by cases e
 |n+1,i,o,out,a,b,r,e=>by
  simp only[De] at e;cases d:decide (i<(c.length:Int))<;>rw[d] at e
  ·exact⟨_,_,_,_,e⟩
  ·rw[Acc] at e
   iterate 3 (replace e:=(bd e).choose_spec.2)
   exact UR n _ e
def UU {N:Nat}{w:AM}{p:Int}{a:Cj}{o:List (List Int)}{out:List Int}{b:List AX}{c:List AT}{rem:List Int}{r}(e:DN N w p a o out b c rem=some r):r.2.1=rem:=by
 unfold DN at e;obtain⟨_,_,e⟩:=bd e;obtain⟨_,_,e⟩:=bd e;obtain⟨v,_,e⟩:=bd e;cases d:decide (0<BT (v-a.Av))<;>rw[d] at e
 ·cases e;rfl
 ·rw[Acc] at e;obtain⟨_,_,e⟩:=bd e;obtain⟨_,_,e⟩:=bd e;cases e;rfl
def XY {N:Nat}(j:18446744073709551616<N) {w:AM}(c:∀p∈w.b.A,I2 w.b p) {p:Int}{r}(u:VX w.b w.s.N) (e:HT N w p=some r):VX w.b r.2.1:=by
 unfold HT at e;obtain⟨d,a,e⟩:=bd e;obtain⟨_,_,e⟩:=bd e;obtain⟨_,_,e⟩:=bd e;obtain⟨q,_,e⟩:=bd e;obtain⟨o,out,k,l,e⟩:=UR N 0 e;have hd:=(c _ (Adn (FB a).2)).den;unfold J0 at hd;unfold F8 at e;cases m:decide (d.T≠0)<;>rw[m] at e
 ·rw[UU e];exact u
 ·rw[Acc] at e;obtain⟨_,_,e⟩:=bd e;obtain⟨_,_,e⟩:=bd e;obtain⟨_,_,e⟩:=bd e;obtain⟨_,_,e⟩:=bd e;obtain⟨y,n,e⟩:=bd e;obtain⟨_,_,e⟩:=bd e;obtain⟨_,_,e⟩:=bd e;obtain⟨_,_,e⟩:=bd e;obtain⟨_,_,e⟩:=bd e;obtain⟨t,_,e⟩:=bd e;have h0:VX w.b (upd w.s.N p 0):=u.upd a (by omega);have i:∀rem,Ex N w p d o out k l y (DN N w p d) rem=some r→r.2.1=rem:=λrem e=>by
   unfold Ex at e;obtain⟨_,_,e⟩:=bd e;obtain⟨_,_,e⟩:=bd e;exact UU e
  cases g:decide (y.1≤t)<;>rw[g] at e
  ·rw[i _ e];exact h0
  ·rw[Acc] at e;obtain⟨_,_,e⟩:=bd e;obtain⟨_,_,e⟩:=bd e;rw[i _ e];exact h0.upd a (Zf j hd n)
def V9 {N:Nat}(j:18446744073709551616<N) {b:AF}(a:∀p∈b.A,I2 b p) {in_:AN}{s:AI}{y z}:∀(n:Nat) (i:Int) {o:List (List Int)}{c out:List Int}{d:List AX}{g:List AT}{r},VX b c→FO N b in_ s y z (FP N s y z) n i o c out d g=some r→VX b r.1.N∧r.1.P=z.2.2.1
 |0,_,_,_,_,_,_,_,_,e=>by cases e
 |n+1,i,o,c,out,d,g,r,m,e=>by
  simp only[FO] at e;cases k:decide (i<(b.A.length:Int))<;>rw[k] at e
  ·rw[Acd] at e;unfold FP at e;obtain⟨_,e⟩:=Lt e;cases e;exact⟨m,rfl⟩
  ·rw[Acc] at e;obtain⟨x,l,e⟩:=bd e;exact V9 j a n _ (XY j (w:=(⟨b,in_,(⟨s.B,o,c,z.2.1,z.2.2.1,y.2.1,out⟩:AI),d,z.2.2.2,g⟩:AM)) a m l) e
def jE {N:Nat}(u:18446744073709551616<N) {b:AF}(m:II b) (c:∀p∈b.A,I2 b p) (v:To b) {s:AI}(d:Zz b s) {in_:AN}{r}(e:Hg N b s in_=some r):VX b r.1.N∧OU b r.1.P:=by
 have C:=m.pl;have K:=m.li;have M:=m.own;have a:=d.rg.x;have D:OU b s.P:=⟨a.gates,λk l g n o=>⟨(d.rg.gts k l g n o).1,(d.rg.gts k l g n o).2,d.opn k l g n o⟩⟩
 unfold Hg at e;rw[Ug (by omega) (by have:=a.own.len;omega) (λx q=>by have:=(a.own.all x q).len;omega) (by have:=a.rem;omega) (by have:=a.gates;omega) (by have:=a.inn;omega) (by have:=a.out;omega),Acb] at e;obtain⟨_,e⟩:=Lt e;obtain⟨t,i,e⟩:=bd e;obtain⟨Q,_,e⟩:=bd e;obtain⟨y,_,e⟩:=bd e;obtain⟨z,j,e⟩:=bd e;have F:OU b t:=by
  unfold HS at i;exact Rj (w:=(⟨b,in_,s,([]:List AX),(List.replicate ((b.A.length:Int)).toNat (0:Int)),([]:List AT)⟩:AM)) v N 0 D i
 have G:OU b z.2.2.1:=by
  unfold F9 at j;obtain⟨_,_,j⟩:=bd j;exact Yt (w:=(⟨b,in_,(⟨s.B,y.1,s.N,s.I,t,y.2.1,s.O⟩:AI),y.2.2,(List.replicate ((b.A.length:Int)).toNat (0:Int)),([]:List AT)⟩:AM)) N 0 F j
 obtain⟨H,J⟩:=V9 u c N 0 ⟨a.rem,d.rem⟩ e;exact⟨H,by rw[J];exact G⟩
def UH {N:Nat}(p:Cj) (kj:Int→Option Bool) (j:p.An.length≤1000):∀(n:Nat) (s:Int) (k:Nat),0≤s→s+((p.An.length:Int)-k)*1125899906842624≤4611686018427387904→k≤p.An.length→DH N p kj n s (k:Int)=some true→kj (s+(p.An.drop k).sum)=some true∧∀x∈p.An.drop k,0≤x∧x≤1125899906842624
 |0,s,k,h0,l,m,o=>by cases o
 |n+1,s,k,h0,l,m,o=>by
  simp only[DH] at o;rcases Acy k p.An.length with d|d
  ·rw[FA d,Acc,BG d,Acb,Mi,Acb,BA (by omega)] at o;cases i:Tv p.An[k] with
   |false=>rw[i] at o;cases o
   |true=>
    have g:=LP i;unfold J0 at g;rw[i,Adg,Acd,EM (n:=s+p.An[k]) (by omega) (by omega)] at o;obtain⟨a,c⟩:=UH p kj j n _ (k+1) (by omega) (by omega) (by omega) o;rw[Aen d,Adu,←Int.add_assoc];refine⟨a,λx b=>?_⟩;rcases Acl.1 b with rfl|b
    ·exact g
    ·exact c x b
  ·rw[Fj d,Acd] at o;rw[Aee d];exact⟨by rw[List.sum_nil,Int.add_zero];exact o,λx g=>by cases g⟩
def WP {N:Nat}(b:AF) (p:Cj) (a:Int) (kj:Int→Option Bool):∀(n:Nat) (s j:Int),Ch N b p a kj n s j=some true→kj a=some true
 |0,_,_,g=>by cases g
 |n+1,s,j,g=>by
  simp only[Ch] at g;cases d:decide (j<(p.S.length:Int)) with
  |false=>rw[d] at g;exact g
  |true=>
   rw[d,Acc] at g;obtain⟨x,_,g⟩:=bd g;obtain⟨c,_,g⟩:=bd g;cases c with
   |true=>cases g
   |false=>exact WP b p a kj n _ _ g
def UP (H:Int) (p:Nat):List AC→List Int→List AX
 |[],_=>[]
 |e::es,x=>match e.take x with
  |some y=>(if y.1.sum≤0 then [] else [(⟨H,(p:Int),e.to_,e.way,y.1⟩:AX)])++UP H p es y.2
  |none=>UP H p es x
def Z9:List AC→List Int→List Int
 |[],x=>x
 |e::es,x=>match e.take x with
  |some y=>Z9 es y.2
  |none=>Z9 es x
def Sd (H:Int) (p:Nat):∀(a b:List AC) (x:List Int),UP H p (a++b) x=UP H p a x++UP H p b (Z9 a x)
 |[],b,x=>rfl
 |e::a,b,x=>by
  simp only[Acu,UP,Z9];cases e.take x with
  |none=>exact Sd H p a b x
  |some y=>simp only;rw[Sd H p a b y.2,Ado]
def U7:∀(a b:List AC) (x:List Int),Z9 (a++b) x=Z9 b (Z9 a x)
 |[],b,x=>rfl
 |e::a,b,x=>by
  simp only[Acu,Z9];cases e.take x with
  |none=>exact U7 a b x
  |some y=>exact U7 a b y.2
def Sc {H:Int}{p:Nat}:∀{es:List AC}{x:List Int}(m:AX),m∈UP H p es x→∃e∈es,m.Bf=e.way∧m.M=(p:Int)
 |[],x,m,a=>by cases a
 |e::es,x,m,a=>by
  simp only[UP] at a;cases g:e.take x with
  |none=>
   rw[g] at a;obtain⟨b,c,d⟩:=Sc (es:=es) m a;exact⟨b,.tail _ c,d⟩
  |some y=>
   rw[g] at a;rcases Ac7.1 a with a|a
   ·split at a
    ·cases a
    ·rw[Ac3.1 a];exact⟨e,.head _,rfl,rfl⟩
   ·obtain⟨b,c,d⟩:=Sc (es:=es) m a;exact⟨b,.tail _ c,d⟩
def NY (b:AF) (p:Nat) (t:FL):Bool:=decide (t.Ap=(p:Int))&&(decide (0≤t.Bj)&&decide (t.Bj<(b.J.length:Int)))&&decide (0<t.Be)&&(decide (t.E= -1)||((decide (0≤t.E)&&decide (t.E<(b.A.length:Int)))&&decide ((b.A.getD t.E.toNat default).Au=(b.A.getD p default).Au)))
def YB (N:Nat) (t:FL):AC:=⟨t.E,0, -3,λy=>EI N t y⟩
def NA (N:Nat) (b:AF) (p:Nat) (a:List FL):List AC:=(a.filter (NY b p)).map (YB N)
def XG (N:Nat) (b:AF) (p:Nat) {a:List FL}{k:Nat}(c:k<a.length):NA N b p (a.take (k+1))=NA N b p (a.take k)++if NY b p a[k] then [YB N a[k]] else []:=by
 unfold NA;rw[Adx c,Aep,Adw];congr 1;cases d:NY b p a[k]<;>simp [d]
def UG (N:Nat) (b:AF) (p:Nat) (a:List FL):(NA N b p a).length≤a.length:=by
 unfold NA;rw[Ae7];exact Afs _ _
def bQ {N:Nat}(M:18446744073709551616<N) {w:AM}(Q:w.in_.U.length≤1000) {p:Nat}(v:p<w.b.A.length):JN N w (p:Int)=some (NA N w.b p w.in_.U):=by
 unfold JN;obtain⟨l,C,e⟩:=GK w.in_.U.length (λn i l=>Cq N w (p:Int) (D0 N) n l i) (D0 N) (λk l=>l=NA N w.b p (w.in_.U.take k)) (λn k l q=>by
  simp only[Cq];rw[Fj q];rfl) (λn k l D q=>by
  have F:=UG N w.b p (w.in_.U.take k);rw[←D,Adv] at F;rw[XG N w.b p q,←D];simp only[Cq,G8];rw[FA q,Acc,BG q,BA (by omega)];simp only[Acb,Nw,Gw];generalize w.in_.U[k]=x
  have s:w.b.A.getD p default=w.b.A[p]:=by simp [Adp,v]
  have c:∀B:Bool,NY w.b p x=B→∃s',s'=(l++if NY w.b p x then [YB N x] else [])∧cond B (chk (HQ (l.length+1) 32) (Cq N w (p:Int) (D0 N) n (l++([(⟨x.E,0,(-3),(λy=>EI N x y)⟩:AC)]:List AC)) ((k+1:Nat):Int))) (Cq N w (p:Int) (D0 N) n l ((k+1:Nat):Int))=Cq N w (p:Int) (D0 N) n s' ((k+1:Nat):Int):=λB G=>by
   refine⟨_,rfl,?_⟩;rw[G];cases B
   ·simp
   ·rw[Acc,F7 (by omega)];rfl
  unfold NY at c;by_cases d:x.Ap=(p:Int)
  ·cases m:(decide (0≤x.Bj)&&decide (x.Bj<(w.b.J.length:Int)))
   ·simp [d,NY,m]
   ·by_cases z:0<x.Be
    ·by_cases a:x.E= -1
     ·have:=c true (by rw[m];simp [d,z,a]);simpa [d,NY,m,a,show ¬x.Be≤0 by omega] using this
     ·cases o:(decide (0≤x.E)&&decide (x.E<(w.b.A.length:Int)))
      ·simp [d,NY,m,a,o,show ¬x.Be≤0 by omega]
      ·obtain⟨H,I⟩:=Q8.1 o;obtain⟨y,t⟩:=Df.ix (l:=w.b.A) H (by omega);have u:w.b.A.getD x.E.toNat default=y:=by
        obtain⟨j,K⟩:∃j:Nat,x.E=(j:Int):=⟨x.E.toNat,by omega⟩
        rw[K] at t I ⊢;rw[BG (by omega)] at t;rw[Adm];simpa [Adp,show j<w.b.A.length by omega] using t
       by_cases g:y.Au=(w.b.A[p]).Au
       ·have:=c true (by rw[o,m,u,s];simp [d,z,g]);simpa [d,NY,m,a,o,t,BG v,g,show ¬x.Be≤0 by omega] using this
       ·have:=c false (by rw[o,u,s];simp [a,g]);simpa [d,NY,m,a,o,t,BG v,g,show ¬x.Be≤0 by omega] using this
    ·simp [d,NY,m,z,show x.Be≤0 by omega]
  ·simp [d,NY]) N 0 [] rfl (by omega) (Aci _)
 rw[Adk] at C;rw[←C];exact e
def bS {N:Nat}(j:18446744073709551616<N) {b:AF}{W:Nat}(c:W≤64) (p:Nat) (d:List FL):XL b W p (NA N b p d):=λe g=>by
 obtain⟨t,i,rfl⟩:=Adb.1 g;have a:=(Ads.1 i).2;refine⟨kA (by omega) c t,by show(-3:Int)≠ -4;decide,?_,by show(0:Int)=QV _ _ (-3);unfold QV;rw[Ace (by omega),Acf rfl]⟩;show t.E= -1∨(0≤t.E∧t.E<b.A.length)
 unfold NY at a;simp only[Acj,Ac5,Ac1] at a;omega
def XF (b:AF) (W p:Nat) (l:List AC):Prop:=∀e∈l,vK b W p e∧0≤e.way
def XF.snoc {b:AF}{W p:Nat}{l:List AC}(g:XF b W p l) {e:AC}(c:vK b W p e) (d:0≤e.way):XF b W p (l++[e]):=λx a=>by
 rcases Ac7.1 a with a|a
 ·exact g x a
 ·rw[Ac3.1 a];exact⟨c,d⟩
def eO {N:Nat}(u:18446744073709551616<N) {w:AM}{W:Nat}(X:W≤64) (hL:w.b.C.length≤1000) (D:∀l∈w.b.C,KY w.b l) (hg:w.s.P.length=w.b.C.length) (Y:w.peaks.length=w.b.A.length) {p:Nat}(hp:p<w.b.A.length):∃l,JO N w (p:Int)=some l∧l.length≤w.b.C.length∧XF w.b W p l:=by
 unfold JO;obtain⟨l,⟨U,z⟩,e⟩:=GK w.b.C.length (λn i l=>CP N w (p:Int) (D2 N) n l i) (D2 N) (λk l=>l.length≤k∧XF w.b W p l) (λn k l q=>by
  simp only[CP];rw[Fj q];rfl) (λn k l Z q=>by
  obtain⟨U,z⟩:=Z;have g:=D _ (Acw q);have F:k<w.s.P.length:=by omega
  have H:p<w.peaks.length:=by omega
  have v:QV w.b p (k:Int)=(w.b.C[k]).R:=by
   unfold QV;rw[Acf ⟨by omega,by omega⟩,Adm,TS q]
  simp only[CP,H2,EN,Hy];rw[FA q,Acc,BG q,Acb,BA (by omega)];simp only[BG F,BG H,Acb];generalize w.b.C[k]=x at g v
  have d:∀(B:Int) (to:Int),(to= -1∨(0≤to∧to<w.b.A.length))→∃s',(s'.length≤k+1∧XF w.b W p s')∧chk (HQ (l.length+([(⟨to,x.R,(k:Int),(λx=>AL N B x)⟩:AC)]:List AC).length) 32) (CP N w (p:Int) (D2 N) n (l++([(⟨to,x.R,(k:Int),(λx=>AL N B x)⟩:AC)]:List AC)) ((k+1:Nat):Int))=CP N w (p:Int) (D2 N) n s' ((k+1:Nat):Int):=λB to c=>by
   rw[F7 (by simp;omega)];exact⟨_,⟨by simp;omega,z.snoc ⟨λy hy=>by obtain⟨t,e,h,_⟩:=Qr u X B y hy;exact⟨t,e,h⟩,by show(k:Int)≠ -4;omega,c,v.symm⟩ (by show 0≤(k:Int);omega)⟩,rfl⟩
  have j:∀i:Int,0≤i→i<w.b.A.length→∃y,ix w.peaks i=some y:=λi h0 h1=>Df.ix h0 (by omega);obtain⟨f0,I⟩:=j x.M g.fr.1 g.fr.2;cases V:(decide (x.M=(p:Int))&&decide (x.G≠4))
  ·rw[Acd];cases J:decide (x.M=(p:Int))
   ·rw[Acd];cases hC:(decide (x.E=(p:Int))&&decide (x.G=4))
    ·exact⟨l,⟨by omega,z⟩,rfl⟩
    ·obtain⟨a,m⟩:=YH u x f0 w.peaks[p];obtain⟨b,hb⟩:=Sx N 0 a;rw[Acc];simp only[I,Acb];rw[m,Acb,hb,Acb];exact d _ _ (.inr g.fr)
   ·have J:=Ad2 J;have h4:x.G=4:=by
     rw[Acx J,Bool.true_and] at V;simpa using V
    obtain⟨_,_,_,_,_,c⟩:=g.seep h4;have c:=g.to.resolve_left c;obtain⟨K,o⟩:=j x.E c.1 c.2;obtain⟨a,m⟩:=YH u x w.peaks[p] K;rw[Acc];simp only[o,Acb];rw[m,Acb];exact d _ _ g.to
  ·rw[Acc];cases Q:decide (x.E≠ -1)
   ·obtain⟨a,m⟩:=Ye u x w.s.P[k] w.peaks[p] 0;rw[Acd,m,Acb];exact d _ _ g.to
   ·have Q:=Ad2 Q;have c:=g.to.resolve_left Q;obtain⟨K,o⟩:=j x.E c.1 c.2;obtain⟨a,m⟩:=Ye u x w.s.P[k] w.peaks[p] K;rw[Acc];simp only[o,Acb];rw[m,Acb];exact d _ _ g.to) N 0 [] ⟨Acr _,λe he=>by cases he⟩ (by omega) (Aci _)
 exact⟨l,e,U,z⟩
end Go.Proofs.YtabonambpbofgaaGreat
