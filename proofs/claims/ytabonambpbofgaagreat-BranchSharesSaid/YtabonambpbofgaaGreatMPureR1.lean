import Derived.Test.YtabonambpbofgaaGreatMPureEy
import Derived.Test.YtabonambpbofgaaGreatMPureEx
namespace Go.Proofs.YtabonambpbofgaaGreat
set_option linter.all false
open Go.RowKit
structure JY (P W:Nat) (o:List (List Int)):Prop where
 len:o.length=P
 all:∀x∈o,PX W x
def Fs (o:List (List Int)):Int:=(o.map List.sum).sum
def HK (q:List AV):Int:=(q.map λl=>l.W.sum).sum
def JY.ix {P W:Nat}{o:List (List Int)}(c:JY P W o) {k:Nat}(a:k<P):∃x,Go.Proofs.YtabonambpbofgaaGreat.ix o (k:Int)=some x∧o[k]? =some x∧PX W x:=by
 obtain⟨x,e,b⟩:=Aac (l:=o) (i:=k) (by rw[c.len];exact a);exact⟨x,e,by rw[BB (by rw[c.len];exact a)] at e;rw[Aa1 (by rw[c.len];exact a)];exact e,c.all x b⟩
def JY.upd {P W:Nat}{o:List (List Int)}(c:JY P W o) (i:Int) {x:List Int}(b:PX W x):JY P W (upd o i x):=
 ⟨by rw[Ma];exact c.len,λy a=>by
  rcases Ad5 a with a|rfl
  ·exact c.all y a
  ·exact b⟩
def JY.nn {P W:Nat}{o:List (List Int)}(c:JY P W o):∀x∈o.map List.sum,0≤x:=λx a=>by
 obtain⟨y,b,rfl⟩:=Abm.1 a;exact(c.all y b).sum0
def QS {o:List (List Int)}{k:Nat}{x y:List Int}(a:o[k]? =some x):Fs (upd o (k:Int) y)=Fs o-x.sum+y.sum:=by
 have b:=(Aa4.1 a).1;have c:=(Aa4.1 a).2;unfold Fs upd;rw[Abx,List.map_set,Nh (by simpa using b),List.getElem_map,c]
def JY.le {P W:Nat}{o:List (List Int)}(b:JY P W o) {k:Nat}{x:List Int}(a:o[k]? =some x):x.sum≤Fs o:=JH b.nn _ (Abm.2 ⟨x,Ab3 a,rfl⟩)
def JY.sum0 {P W:Nat}{o:List (List Int)}(a:JY P W o):0≤Fs o:=KN a.nn
def NT {o:List (List Int)}{k:Nat}(a:k<o.length):Fs (o.take (k+1))=Fs (o.take k)+(o[k]).sum:=Q0 a
def MV {q:List AV}{k:Nat}(a:k<q.length):HK (q.take (k+1))=HK (q.take k)+(q[k]).W.sum:=Q0 (f:=λl:AV=>l.W.sum) a
def Nm {P W:Nat}{o:List (List Int)}(a:JY P W o) (k:Nat):0≤Fs (o.take k)∧Fs (o.take k)≤Fs o:=by
 have:=Jb a.nn k;rw[←List.map_take] at this;exact this
def QX (P W:Nat) (q:List AV):Prop:=∀l∈q,PX W l.W∧0≤l.E∧l.E<P
def QX.nn {P W:Nat}{q:List AV}(c:QX P W q):∀x∈q.map (λl=>l.W.sum),0≤x:=λx a=>by
 obtain⟨y,b,rfl⟩:=Abm.1 a;exact(c y b).1.sum0
def H9 {P W:Nat}{q:List AV}(a:QX P W q) (k:Nat):0≤HK (q.take k)∧HK (q.take k)≤HK q:=by
 have:=Jb a.nn k;rw[←List.map_take] at this;exact this
def v1 (W:Nat) (n:Int):List Int:=upd (List.replicate W 0) 0 n
def SH (W:Nat) (n:Int):(v1 W n).length=W:=by unfold v1;rw[Ma];simp
def UM {W:Nat}(a:1≤W) (n:Int):(v1 W n).sum=n:=by
 unfold v1 upd;rw[show (0:Int).toNat=0 from rfl,Nh (by simp;omega)];simp
def kY {W:Nat}(c:1≤W) {n:Int}(h0:0≤n) (b:n≤1125899906842624):PX W (v1 W n):=
 ⟨SH W n,λx a=>by
  rcases Ad5 a with a|rfl
  ·rw[(List.mem_replicate.1 a).2];exact Abo 0
  ·exact h0,by rw[UM c];exact b⟩
def XV (W:Nat):v1 W 0=List.replicate W 0:=by
 unfold v1 upd;apply Abw;intro i;by_cases a:0=i
 ·subst a;rcases Aee W with a|a
  ·subst a;rfl
  ·rw[show (0:Int).toNat=0 from rfl,Ac1 (by simp;omega),Ac8,Aav a]
 ·rw[show (0:Int).toNat=0 from rfl,Acw a]
def Tk {W:Nat}{p:List Int}(b:p.length=W):Hf p (List.replicate W 0)=p:=by
 apply Abw;intro i;rw[Hf,Ac0,Ac8];rcases Abb i W with a|a
 ·rw[Aav a,Aa1 (by omega)];simp
 ·rw[Aas (by omega),Abj (show p.length≤i by omega)]
def SG:∀(p q r:List Int),Hf (Hf p q) r=Hf p (Hf q r)
 |[],_,_=>by simp [Hf]
 |_::_,[],_=>by simp [Hf]
 |_::_,_::_,[]=>by simp [Hf]
 |a::p,b::q,c::r=>by
  have:=SG p q r;simp only[Hf,List.zipWith_cons_cons] at this ⊢;rw[this,Int.add_assoc]
def XU {W:Nat}{p:List Int}(g:p.length=W) (d:1≤W) (n x:Int) (c:ix p 0=some x):upd p 0 (x+n)=Hf p (v1 W n):=by
 have b:p[0]? =some x:=(Er c).2;apply Abw;intro i;unfold v1 upd;rw[Hf,Ac0,show(0:Int).toNat=0 from rfl];by_cases a:0=i
 ·subst a;rw[Ac1 (by omega),Ac1 (by simp;omega),b]
 ·rw[Acw a,Acw a,Ac8];rcases Abb i W with a|a
  ·rw[Aav a,Aa1 (show i<p.length by omega)];simp
  ·rw[Aas (by omega),Abj (show p.length≤i by omega)]
def nI {W:Nat}(g:1≤W) (a b:Int):Hf (v1 W a) (v1 W b)=v1 W (a+b):=by
 apply Abw;intro i;rw[Hf,Ac0];unfold v1 upd;rw[show (0:Int).toNat=0 from rfl];by_cases c:0=i
 ·subst c;rw[Ac1 (by simp;omega),Ac1 (by simp;omega),Ac1 (by simp;omega)]
 ·rw[Acw c,Acw c,Acw c,Ac8];by_cases d:i<W<;>simp [d]
def ZZ (H:Int) (W:Nat):Nat→List Int→List AT
 |_,[]=>[]
 |i,n::l=>(if 0<n then [⟨H, -1,(i:Int), -4,v1 W n⟩] else [])++ZZ H W (i+1) l
def Se (H:Int) (W:Nat) (n:Int):∀(l:List Int) (i:Nat),ZZ H W i (l++[n])=ZZ H W i l++(if 0<n then [⟨H, -1,((i+l.length:Nat):Int), -4,v1 W n⟩] else [])
 |[],i=>by simp [ZZ]
 |a::l,i=>by
  have e:i+(a::l).length=i+1+l.length:=by simp;omega
  rw[Aa5,ZZ,Se H W n l (i+1),ZZ,e,Abz]
def US (H:Int) (W:Nat):∀(l:List Int) (i:Nat),(ZZ H W i l).length≤l.length
 |[],_=>by simp [ZZ]
 |a::l,i=>by
  have:=US H W l (i+1);rw[ZZ,Abi];split<;>simp<;>omega
structure zK (w:AK) (W k:Nat) (l:List Int) (s:Int×Int×List AT×List (List Int)×List Int):Prop where
 ll:l.length=k
 l0:∀n∈l,0≤n
 ms:s.2.2.1=ZZ w.s.B W 0 l
 own:JY w.b.A.length W s.2.2.2.1
 lo:∀(i:Nat) x n,w.s.G[i]? =some x→l[i]? =some n→s.2.2.2.1[i]? =some (Hf x (v1 W n))
 hi:∀i,k≤i→s.2.2.2.1[i]? =w.s.G[i]?
 th:s.1=Fs s.2.2.2.1+HK w.s.I∧s.1≤1125899906842624
 inn:s.2.2.2.2=Hf w.s.L (v1 W l.sum)
 en:s.2.1=w.s.L.sum+l.sum∧s.2.1≤1152921504606846976
 os:Fs s.2.2.2.1=Fs w.s.G+l.sum
structure ZR (P W:Nat) (o:List (List Int)):Prop where
 len:o.length=P
 all:∀x∈o,x.length=W
def ZR.ix {P W:Nat}{o:List (List Int)}(c:ZR P W o) {k:Nat}(a:k<P):∃x,Go.Proofs.YtabonambpbofgaaGreat.ix o (k:Int)=some x∧x.length=W:=by
 obtain⟨x,e,b⟩:=Aac (l:=o) (i:=k) (by rw[c.len];exact a);exact⟨x,e,c.all x b⟩
def ZR.upd {P W:Nat}{o:List (List Int)}(c:ZR P W o) (i:Int) {x:List Int}(b:x.length=W):ZR P W (upd o i x):=
 ⟨by rw[Ma];exact c.len,λy a=>by
  rcases Ad5 a with a|rfl
  ·exact c.all y a
  ·exact b⟩
def UD {N:Nat}(q:8000000000000<N) {s:AN}(t:s.G.length≤64) (g:∀x∈s.G,x.length≤1000) (u:s.N.length≤1000) (v:s.R.length≤1000) (w:s.L.length≤1000) (y:s.O.length≤1000):KW N s=some s:=by
 unfold KW;rw[K2 (by omega) _ (by decide)];obtain⟨o,⟨z,j⟩,e⟩:=GO s.G.length (λn i l=>Fy N s (F5 N s) n i l) (F5 N s) (λk (l:List (List Int))=>l.length=s.G.length∧∀i,i<k→l[i]? =s.G[i]?) (λn k l a=>by
  simp only[Fy];rw[Ft a];rfl) (λn k l d a=>by
  simp only[Fy];have b:k<l.length:=by rw[d.1];exact a
  rw[FW a,Aaq,BB a,Aap,MY N (by have:=g _ (Aa9 a);omega)];simp only[BB b,Aap];rw[A9 (by omega)];refine⟨_,⟨by rw[Ma];exact d.1,λi m=>?_⟩,rfl⟩;by_cases c:k=i
  ·subst c;rw[HS b];simp [a]
  ·rw[JL c];exact d.2 i (by omega)) N 0 (List.replicate ((s.G.length:Int)).toNat ([]:List Int)) ⟨QP _ _,λi d=>by omega⟩ (by omega) (Aaw _)
 rw[show Fy N s (F5 N s) N 0 _=F5 N s o from e];have p:o=s.G:=Abw λi=>by
  rcases Abb i s.G.length with A|A
  ·exact j i A
  ·rw[Abj A,Abj (by omega)]
 subst p;unfold F5;rw[MY N (by omega),Aap,W0 N (by omega),Aap,MY N (by omega),Aap,MY N (by omega),Aap]
def Aab (a:List Int) (i:Int):Int:=a.getD i.toNat 0
def oZ {a:List Int}{i:Int}(h0:0≤i) (c:i<a.length):ix a i=some (Aab a i):=by
 obtain⟨n,rfl,b⟩:=lX h0 c;rw[BB b];simp [Aab,Ab1,b]
def Uv (W:Nat) (t:Int) (q:List AV) (p:Nat):List Int:=(q.filter λl=>decide (l.Ba≤t)&&decide (l.E=(p:Int))).foldl (λa l=>Hf a l.W) (List.replicate W 0)
def Ls (t:Int) (q:List AV):List AV:=q.filter λl=>decide (t<l.Ba)
def UF {W:Nat}{t:Int}{q:List AV}{p k:Nat}(d:k<q.length):Uv W t (q.take (k+1)) p=if (q[k]).Ba≤t∧(q[k]).E=(p:Int) then Hf (Uv W t (q.take k) p) (q[k]).W else Uv W t (q.take k) p:=by
 unfold Uv;rw[Ab9 d,Ac6,Adq];by_cases a:(q[k]).Ba≤t∧(q[k]).E=(p:Int)
 ·rw[Aav a];simp [a.1,a.2]
 ·rw[Aas a];have:(decide ((q[k]).Ba≤t)&&decide ((q[k]).E=(p:Int)))=false:=by
   rw[Bool.and_eq_false_iff];simp only[Abe];by_cases b:(q[k]).Ba≤t
   ·exact .inr λc=>a ⟨b,c⟩
   ·exact .inl b
  simp [this]
def Sf {t:Int}{q:List AV}{k:Nat}(b:k<q.length):Ls t (q.take (k+1))=if (q[k]).Ba≤t then Ls t (q.take k) else Ls t (q.take k)++[q[k]]:=by
 unfold Ls;rw[Ab9 b,Ac6];by_cases a:(q[k]).Ba≤t
 ·rw[Aav a];simp;omega
 ·rw[Aas a];have:t<(q[k]).Ba:=by omega
  simp [this]
def Vo (a b:List AV):HK (a++b)=HK a+HK b:=by unfold HK;rw[Ach,Acm]
structure Aan (P W:Nat) (t:Int) (q:List AV) (k:Nat) (s:List AV×List (List Int)):Prop where
 rest:s.1=Ls t (q.take k)
 own:JY P W s.2
 at_:∀p,p<P→s.2[p]? =some (Uv W t (q.take k) p)
 tot:Fs s.2+HK s.1=HK (q.take k)
def Vr (W:Nat):∀P:Nat,Fs (List.replicate P (List.replicate W 0))=0
 |0=>rfl
 |P+1=>by
  have:=Vr W P;unfold Fs at this ⊢;rw[List.replicate_succ,Abg,Ab4,this,Xh];rfl
def pW {N:Nat}(Y:8000000000000<N) {P W:Nat}(hP:P≤64) (hW:W≤16) {q:List AV}(hq:q.length≤4000000000000) (c:QX P W q) (Z:HK q≤1125899906842624) (t:Int):
  ∃s,Lv N q t (P:Int) (W:Int)=some (s.2,s.1)∧Aan P W t q q.length s:=by
 unfold Lv;rw[Of,Aap,Of,Aap,Aas (show ¬(P:Int)<0 by omega),Aas (show ¬64<(P:Int) by omega),Aas (show ¬(W:Int)<0 by omega),Aas (show ¬16<(W:Int) by omega),K2 (by omega) _ (by decide)];obtain⟨o,⟨i1,K⟩,e⟩:=GO P (λn i l=>HC N (P:Int) (W:Int) (HD N q t (P:Int)) n i l) (HD N q t (P:Int)) (λk (l:List (List Int))=>l.length=P∧∀i,i<k→l[i]? =some (List.replicate W 0)) (λn k l a=>by
  simp only[HC];rw[QP,Ft a];rfl) (λn k l m a=>by
  simp only[HC];have w:k<l.length:=by rw[m.1];exact a
  rw[QP,FW a,Aaq,K2 (by omega) _ (by decide),BB w,Aap,Aap,A9 (by omega)];refine⟨_,⟨by rw[Ma];exact m.1,λi aa=>?_⟩,rfl⟩;by_cases z:k=i
  ·subst z;rw[HS w];rfl
  ·rw[JL z];exact m.2 i (by omega)) N 0 (List.replicate ((P:Int)).toNat ([]:List Int)) ⟨QP _ _,λi m=>by omega⟩ (by omega) (Aaw _)
 rw[show HC N (P:Int) (W:Int) (HD N q t (P:Int)) N 0 _=HD N q t (P:Int) o from e];have M:o=List.replicate P (List.replicate W 0):=Abw λi=>by
  rcases Abb i P with h|h
  ·rw[K i h,Ac8,Aav h]
  ·rw[Abj (by omega),Abj (by simp;omega)]
 have I:JY P W o:=⟨i1,λx Q=>by rw[M] at Q;rw[(List.mem_replicate.1 Q).2];exact PX.zero W⟩
 unfold HD;obtain⟨s,i3,e2⟩:=GO q.length (λn i (s:List AV×List (List Int))=>Gb N q t (P:Int) (IX N) n s.1 i s.2) (λs=>IX N s.1 s.2) (λk s=>Aan P W t q k s) (λn k s a=>by
  simp only[Gb];rw[Ft a];rfl) (λn k s m a=>by
  obtain⟨F,o⟩:=s;obtain⟨A,d,G,U⟩:=m;simp only at A d G U;obtain⟨H,V,X⟩:=c _ (Aa9 a);have h2:=H9 c (k+1);rw[MV a] at h2;have ab:F.length≤k:=by rw[A];exact Ab5 (List.length_filter_le _ _) (by rw[Ab6];omega)
  have ac:0≤HK F:=by
   rw[A];exact R4 λl hl=>(c l (Aeg ((Ab8.1 hl).1))).1.sum0
  simp only[Gb,J2];rw[FW a,Aaq,BB a,Aap,A9 (by omega),Aba V,Aba X,Bool.and_true,Bool.and_true];by_cases u:(q[k]).Ba≤t
  ·obtain⟨j,J,B⟩:=lX (l:=o) V (by rw[d.len];exact X);obtain⟨y,hy,b,g⟩:=d.ix (k:=j) (by rw[←d.len];exact B);have ad:=d.le b;have C:=g.add H (by omega);rw[Aba u,Aaq,J,hy,Aap,Aap,g.padd Y (by omega) H,Aap,Aap,Aap];refine⟨(_,_),⟨by rw[Sf a,Aav u];exact A,d.upd _ C,λp v=>?_,?_⟩,rfl⟩
   ·show(upd o (j:Int) _)[p]? =_
    rw[UF a];by_cases D:j=p
    ·subst D;rw[HS B,Aav ⟨u,J⟩];rw[G j v] at b;rw[Aat b]
    ·rw[JL D,Aas (by rw[J];omega)];exact G p v
   ·show Fs (upd o (j:Int) _)+HK F=_
    rw[QS b,Lj (g.len.trans H.len.symm),MV a];omega
  ·rw[Aaz u,Aar,MY N (by rw[H.len];omega),Aap,GI (by simp;omega)];refine⟨(_,_),⟨by rw[Sf a,Aas u,←A],d,λp v=>?_,?_⟩,rfl⟩
   ·rw[UF a,Aas λh=>u h.1];exact G p v
   ·show Fs o+HK (F++[_])=_
    rw[Vo,MV a];simp only[HK,Abg,List.map_nil,Ab4,List.sum_nil] at U ⊢;omega) N 0 ([],o) ⟨rfl,I,λp v=>by
   show o[p]? =_
   rw[K p v];rfl,by
   show Fs o+HK []=HK (q.take 0)
   rw[M,Vr];rfl⟩ (by omega) (Aaw _)
 exact⟨s,e2,i3⟩
structure ArX (w:AK) (W:Nat) (r:List (List Int)×List AV×List A0×List Int):Prop where
 own:JY w.b.A.length W r.1
 at_:∀(p:Nat) x,w.s.G[p]? =some x→r.1[p]? =some (Hf x (Uv W w.s.B w.s.I p))
 rest:r.2.1=Ls w.s.B w.s.I
 pk:r.2.2.2=r.1.map List.sum
 tot:Fs r.1+HK r.2.1=Fs w.s.G+HK w.s.I
def sA {N:Nat}(hN:8000000000000<N) {w:AK}{W:Nat}(hW:w.b.H.length=W) (ab:W≤16) (hP:w.b.A.length≤64) (hL:w.b.C.length≤96) (ac:∀l∈w.b.C,KA w.b l) (ho:JY w.b.A.length W w.s.G) (hq:w.s.I.length≤4000000000000) (z:QX w.b.A.length W w.s.I) (ht:Fs w.s.G+HK w.s.I≤1125899906842624) (g:w.peaks.length=w.b.A.length) (hg:w.s.R.length=w.b.C.length):
  ∃r,Fi N w=some r∧ArX w W r∧r.2.2.1.length=w.b.C.length:=by
 have ai:=ho.sum0;have ad:=(H9 z 0).2;rw[Acl,show HK ([]:List AV)=0 from rfl] at ad;unfold Fi;rw[hW];obtain⟨⟨t,q⟩,hy,⟨y1,M,y3,y4⟩⟩:=pW hN hP ab hq z (by omega) w.s.B;simp only at y1 M y3 y4 hy;rw[Abu] at y1 y3 y4;rw[hy,Aap];have ag:0≤HK t:=by
  rw[y1];exact R4 λl hl=>(z l ((Ab8.1 hl).1)).1.sum0
 have ah:=M.sum0;obtain⟨⟨o,y⟩,⟨m,Q,U,V,X,Y⟩,e⟩:=GO w.b.A.length (λn i (s:List (List Int)×List Int)=>C1 N w (q,t) (DH N w (q,t)) n i s.1 s.2) (λs=>DH N w (q,t) s.1 s.2) (λk s=>JY w.b.A.length W s.1∧s.2.length=w.b.A.length∧(∀(p:Nat) x,p<k→w.s.G[p]? =some x→s.1[p]? =some (Hf x (Uv W w.s.B w.s.I p)))∧(∀p,k≤p→s.1[p]? =w.s.G[p]?)∧(∀(p:Nat) x,p<k→s.1[p]? =some x→s.2[p]? =some x.sum)∧Fs s.1=Fs w.s.G+Fs (q.take k)) (λn k s d=>by
  simp only[C1];rw[Ft d];rfl) (λn k s hi d=>by
  obtain⟨o,y⟩:=s;obtain⟨m,Q,U,V,X,Y⟩:=hi;simp only at m Q U V X Y;obtain⟨a,ha,u,D⟩:=m.ix d;obtain⟨c,hc,v,J⟩:=M.ix d;have K:k<q.length:=by rw[M.len];exact d
  have Z:q[k]=c:=by rw[Aa1 K] at v;exact Aat v
  have t1:=Nm M (k+1);rw[NT K,Z] at t1;have t2:=m.le u;have hd:=D.add J (by omega);have aa:k<(upd o (k:Int) (Hf a c)).length:=by rw[Ma,m.len];exact d
  simp only[C1];rw[FW d,Aaq,A9 (by omega),ha,Aap,Aap,hc,Aap,Aap,D.padd hN (by omega) J,Aap,Aap,Aap];have ae:ix (upd o (k:Int) (Hf a c)) (k:Int)=some (Hf a c):=by
   rw[BB aa];have:=HS (l:=o) (k:=k) (by rw[m.len];exact d) (Hf a c);rw[Aa1 aa] at this;exact this
  rw[ae,Aap,Aap,hd.total hN (by omega),Aap,BB (show k<y.length by omega),Aap,Aap];refine⟨(_,_),⟨m.upd _ hd,by show(upd y _ _).length=_;rw[Ma];exact Q,λp x hp j=>?_,λp hp=>?_,λp x hp j=>?_,?_⟩,rfl⟩
  ·show(upd o (k:Int) _)[p]? =_
   by_cases g:k=p
   ·subst g;rw[HS (by rw[m.len];exact d)];rw[V k (Aa7 _),j] at u;cases u;rw[y3 k d] at v;rw[Aat v]
   ·rw[JL g];exact U p x (by omega) j
  ·show(upd o (k:Int) _)[p]? =_
   rw[JL (by omega)];exact V p (by omega)
  ·change (upd o (k:Int) (Hf a c))[p]? =some x at j;show(upd y (k:Int) _)[p]? =_
   by_cases g:k=p
   ·subst g;rw[HS (by rw[m.len];exact d)] at j;rw[HS (by omega),Aat j]
   ·rw[JL g] at j ⊢;exact X p x (by omega) j
  ·show Fs (upd o (k:Int) _)=_
   rw[QS u,Lj (D.len.trans J.len.symm),NT K,Z,Y];omega) N 0 (w.s.G,w.peaks) ⟨ho,g,λp x hp=>by omega,λp _=>rfl,λp x hp=>by omega,by simp [Fs]⟩ (by omega) (Aaw _)
 rw[show C1 N w (q,t) (DH N w (q,t)) N 0 w.s.G w.peaks=DH N w (q,t) o y from e];simp only at m Q U V X Y;have af:q.take w.b.A.length=q:=by rw[←M.len,Abu]
 rw[af] at Y;unfold DH;obtain⟨gs,j1,e2⟩:=GO w.b.C.length (λn i s=>Cd N w (q,t) o y n i s) (λs=>some (o,t,s,y)) (λi s=>s.length=w.b.C.length) (λn k s d=>by
  simp only[Cd];rw[Ft d];rfl) (λn i s hi d=>by
  simp only[Cd,Ff];have ok:=ac _ (Aa9 d);rw[FW d,Aaq,BB d,Aap,A9 (by omega)];cases decide ((w.b.C[i]).F=3)
  ·exact⟨s,hi,rfl⟩
  ·rw[Aaq,BB (show i<s.length by omega),Aap,Aap,oZ ok.fr.1 (by rw[Q];exact ok.fr.2),Aap,Aap,(vG N _ _ _).1,Aap,Aap,Aap];exact⟨_,by rw[Ma];exact hi,rfl⟩) N 0 w.s.R hg (by omega) (Aaw _)
 refine⟨_,e2,⟨m,λp x j=>U p x ?_ j,y1,?_,?_⟩,j1⟩
 ·rw[←ho.len];exact(Aa4.1 j).1
 ·show y=o.map List.sum
  apply Abw;intro p;rcases Abb p w.b.A.length with h|h
  ·obtain⟨x,_,j,_⟩:=m.ix h;rw[X p x h j,Acd,j];rfl
  ·rw[Abj (by omega),Abj (by rw[Adv,m.len];omega)]
 ·show Fs o+HK t=_
  omega
def QR {N:Nat}(a:18446744073709551616<N) (v n d:Int):Df (IH N v n d):=by
 unfold IH;rw[OV a,Aap];exact Df.cond (λ_=>Df.mk _) λ_=>Df.mk _
def Ve {N:Nat}(a:18446744073709551616<N) (v n d:Int):Df (Kx N v n d):=by
 unfold Kx;rw[OV a,Aap];exact Df.cond (λ_=>Df.mk _) λ_=>Df.mk _
def xD {N:Nat}(a:18446744073709551616<N) (c:List BU) (x:Int):Df (Mn N c x):=by
 unfold Mn;obtain⟨v,b,k⟩:=J5 (N:=N) (by omega) c;rw[b,Aap];cases v
 ·exact Df.mk _
 ·have g:=k rfl;obtain⟨y,d⟩:=SF a g.1 g.2.1 x;exact⟨y.1,by rw[d];rfl⟩
def X2 {N:Nat}(i:18446744073709551616<N) (l:A8) (g:A0) (fr to:Int):Df (Mm N l g fr to):=by
 have head:Df (Lz N l fr to):=by
  unfold Lz;refine Df.cond (λ_=>Df.mk _) λ_=>?_;refine(QR i _ _ _).bind λv _=>(SP N _ _).bind λu _=>Df.mk _
 have j:Df (L0 N l g.Z g.Am l.As fr to):=by
  unfold L0 K7 K8 K9 LA JT JU;have n:Df ((HR N fr l.Bc).bind λm=>(IH N (max 0 m) l.Y l.S).bind λk=>some k):=(SP N _ _).bind λu _=>(QR i _ _ _).bind λv _=>Df.mk _;refine Df.cond (λ_=>?_) λ_=>Df.cond (λ_=>(QR i _ _ _).bind λv _=>Df.mk _) λ_=>Df.cond (λ_=>Df.cond (λ_=>(QR i _ _ _).bind λv _=>Df.mk _) λ_=>Df.mk _) λ_=>Df.cond (λ_=>Df.cond (λ_=>Df.mk _) λ_=>n) λ_=>Df.cond (λ_=>n) λ_=>Df.mk _;exact head.bind λa _=>(xD i _ _).bind λb _=>(QR i _ _ _).bind λc _=>(W8 N _ _).bind λd _=>Df.mk _
 unfold Mm;exact j.bind λv _=>Df.mk _
def Xg {N:Nat}(c:18446744073709551616<N) (l:A8) (fr to:Int):Df (LV N l fr to):=by
 unfold LV;exact Df.cond (λ_=>Df.mk _) λ_=>(Ve c _ _ _).bind λa _=>(Ve c _ _ _).bind λb _=>Df.mk _
def xE (W:Nat) (f:List Int→Option (List Int×List Int)):Prop:=∀x,x.length=W→∃r,f x=some r∧r.1.length=W∧r.2.length=W
def zW (W:Nat) (l:List AC):Prop:=∀e∈l,xE W e.take
def zW.snoc {W:Nat}{l:List AC}(c:zW W l) {e:AC}(b:xE W e.take):zW W (l++[e]):=λx a=>by
 rcases Abp.1 a with a|a
 ·exact c x a
 ·rw[Ab0.1 a];exact b
def ZO {N:Nat}(i:8000000000000<N) (a b:List AC) (j:a.length≤100000) (k:b.length≤100000):CV N [a,b]=some (a++b):=by
 obtain⟨n,rfl⟩:∃n,N=n+3:=⟨N-3,by omega⟩
 have d:BO ((a.length:Int)+(b.length:Int))=((a.length+b.length:Nat):Int):=by rw[D5 (by omega) (by omega)];rfl
 have g:BO (0+(a.length:Int))=((a.length:Nat):Int):=by rw[D5 (by omega) (by omega)];omega
 have c:Cg (n+3) ((a.length+b.length:Nat):Int)=some []:=by
  unfold Cg CR;rw[Aaz (show ¬((a.length+b.length:Nat):Int)<0 by omega),Aar,D5 (n:=(0:Int)-0) (by decide) (by decide),D5 (n:=((a.length+b.length:Nat):Int)-(0-0)) (by omega) (by omega)];cases l:decide (0<((a.length+b.length:Nat):Int)-(0-0))
  ·rfl
  ·rw[Aaq,GI (by omega)];rfl
 unfold CV;simp only[B6];rw[show decide ((0:Int)<(([a,b]:List (List AC)).length:Int))=true by simp,Aaq,show Go.Proofs.YtabonambpbofgaaGreat.ix [a,b] 0=some a from rfl,Aap,g,Aaz (show ¬((a.length:Nat):Int)<0 by omega),Aar,show BO (0+1)=1 from rfl,show decide ((1:Int)<(([a,b]:List (List AC)).length:Int))=true by simp,Aaq,show Go.Proofs.YtabonambpbofgaaGreat.ix [a,b] 1=some b from rfl,Aap,d,Aaz (show ¬((a.length+b.length:Nat):Int)<0 by omega),Aar,show BO (1+1)=2 from rfl,show decide ((2:Int)<(([a,b]:List (List AC)).length:Int))=false by simp,Aar];unfold CL;rw[c,Aap];simp only[B5];rw[show decide ((0:Int)<(([a,b]:List (List AC)).length:Int))=true by simp,Aaq,show Go.Proofs.YtabonambpbofgaaGreat.ix [a,b] 0=some a from rfl,Aap,GI (by simp;omega),show BO (0+1)=1 from rfl,show decide ((1:Int)<(([a,b]:List (List AC)).length:Int))=true by simp,Aaq,show Go.Proofs.YtabonambpbofgaaGreat.ix [a,b] 1=some b from rfl,Aap,GI (by simp;omega),show BO (1+1)=2 from rfl,show decide ((2:Int)<(([a,b]:List (List AC)).length:Int))=false by simp,Aar];rfl
def bI {N:Nat}(a:18446744073709551616<N) (b:Ca) (v m:Int):Df (JI N b v m):=by
 unfold JI HX;rw[OV a,Aap];exact Df.cond (λ_=>Df.mk _) λ_=>Df.cond (λ_=>Df.cond (λ_=>Df.mk _) λ_=>Df.mk _) λ_=>Df.cond (λ_=>Df.mk _) λ_=>Df.mk _
structure zV (P W:Nat) (o:List (List Int)) (out:List Int) (ms:List AT) (sn:List AV) (M:Nat):Prop where
 own:ZR P W o
 out:out.length=W
 mv:ms.length≤M
 sn:sn.length≤M
def zV.le {P W:Nat}{o:List (List Int)}{out:List Int}{a:List AT}{b:List AV}{M c:Nat}(g:zV P W o out a b M) (d:M≤c):zV P W o out a b c:=⟨g.own,g.out,Ab5 g.mv d,Ab5 g.sn d⟩
def Px (b:AF) (p:Nat) (a:Int):Int:=if 0≤a∧a<b.C.length then (Xt b a.toNat).Q else if a= -3 then 0 else (b.A.getD p default).Q
structure tH (b:AF) (W p:Nat) (e:AC):Prop where
 tk:∀x,PX W x→∃t,e.take x=some (t,Ja x t)∧WW t x
 way:e.way≠ -4
 to:e.to_= -1∨(0≤e.to_∧e.to_<b.A.length)
 dl:e.delay=Px b p e.way
structure yA (b:AF) (H:Int) (W p:Nat) (m:AT):Prop where
 hour:m.B=H
 fr:m.M=(p:Int)
 way:m.Be≠ -4
 to:m.E= -1∨(0≤m.E∧m.E<b.A.length)
 px:PX W m.W
 pos:0<m.W.sum
def MF (b:AF) (H:Int) (m:AT):Option AV:=if m.E<0 then none else some ⟨BO (BO (H+1)+Px b m.M.toNat m.Be),m.E,m.W⟩
def Tb (N:Nat) (out:List Int) (a:List AT):List Int:=a.foldl (λo m=>if m.E<0 then (HY N o m.W).getD [] else o) out
def Rs (o:List (List Int)) (a:List AT):List (List Int):=a.foldl (λo m=>upd o m.M (Ja (o.getD m.M.toNat []) m.W)) o
def RC:List AT→List (List Int)→Prop
 |[],_=>True
 |m::a,o=>(∃x,o[m.M.toNat]? =some x∧WW m.W x)∧RC a (upd o m.M (Ja (o.getD m.M.toNat []) m.W))
def LU (a:List AT):Int:=(a.map λm=>m.W.sum).sum
def RC.app:∀{l1 a:List AT}{o:List (List Int)},RC l1 o→RC a (Rs o l1)→RC (l1++a) o
 |[],_,_,_,d=>d
 |m::l1,a,o,b,c=>⟨b.1,RC.app (l1:=l1) b.2 c⟩
structure U8 (b:AF) (H:Int) (N W p:Nat) (o:List (List Int)) (out:List Int) (ms:List AT) (sn:List AV) (o':List (List Int)) (out':List Int) (ms':List AT) (sn':List AV) (l:List AT):Prop where
 mv:∀m∈l,yA b H W p m
 ms_:ms'=ms++l
 own:o'=Rs o l
 out_:out'=Tb N out l
 sn_:sn'=sn++l.filterMap (MF b H)
 val:RC l o
 ox:JY b.A.length W o'
 ol:out'.length=W
 tot:Fs o'+LU l=Fs o
def U8.nil {b:AF}{H:Int}{N W p:Nat}{o:List (List Int)}{out:List Int}{a:List AT}{c:List AV}(d:JY b.A.length W o) (g:out.length=W):U8 b H N W p o out a c o out a c []:=
 ⟨λm i=>(by cases i),by simp,rfl,rfl,by simp,trivial,d,g,by simp [LU]⟩
def Vu (a b:List AT):LU (a++b)=LU a+LU b:=by unfold LU;rw[Ach,Acm]
def U8.trans {b:AF}{H:Int}{N W p:Nat}{o q i:List (List Int)}{out c a:List Int}{s j d:List AT}{t n g:List AV}{l u:List AT}(w:U8 b H N W p o out s t q c j n l) (k:U8 b H N W p q c j n i a d g u):U8 b H N W p o out s t i a d g (l++u):=
 ⟨λm v=>(Abp.1 v).elim (w.mv m) (k.mv m),by rw[k.ms_,w.ms_,Abz],by rw[k.own,w.own];unfold Rs;rw[Adq],by rw[k.out_,w.out_];unfold Tb;rw[Adq],by rw[k.sn_,w.sn_,List.filterMap_append,Abz],w.val.app (by rw[←w.own];exact k.val),k.ox,k.ol,by rw[Vu];have:=w.tot;have:=k.tot;omega⟩
def gZ {N:Nat}(w:8000000000000<N) (t:Int) {to:Int}(h0:0≤to) {p:List Int}(y:p.length≤1000) (l:∀x∈p,0≤x) (z:0<p.sum):K5 N t to p=some [⟨t,to,p⟩]:=by
 obtain⟨i,c,a⟩:∃(i:Nat) (A:i<p.length),0<p[i]:=by
  apply Ado;intro d;have:p.sum≤p.length*0:=Kj λx m=>by
   obtain⟨i,c,rfl⟩:=Aef.1 m;have:=d;apply Ado;intro A;exact d ⟨i,c,by omega⟩
  omega
 have o:∃j:Int,0≤j∧Fj N p (λx=>IW N x)=some j:=by
  unfold Fj;have:∀(n k:Nat),p.length<n+k→k≤i→∃j:Int,0≤j∧DX N p (λx=>IW N x) (Ej N) n (k:Int)=some j:=by
   intro n
   induction n with
   |zero=>intro k q s;omega
   |succ n u=>
    intro k q s;have g:k<p.length:=by omega
    simp only[DX,IW];rw[FW g,Aaq,BB g,A9 (by omega),Aap,Aap];by_cases A:0<p[k]
    ·rw[Aba A];exact⟨(k:Int),by omega,rfl⟩
    ·rw[Aaz A,Aar];have:k≠i:=λe=>by subst e;exact A a
     exact u (k+1) (by omega) (by omega)
  exact this N 0 (by omega) (Aaw _)
 obtain⟨j,b,v⟩:=o;unfold K5 GQ;rw[v,Aaz (show ¬to<0 by omega),Aar,Aap,Aap,Aba b,Aby,Aap,Aar,MY N (by omega),Aap,GI (by simp)];rfl
def Vd {α}{l:List α}{k:Nat}{x:α}(a:l[k]? =some x):upd l (k:Int) x=l:=by
 apply Abw;intro i;by_cases e:k=i
 ·subst e;rw[HS (Aa4.1 a).1,a]
 ·rw[JL e]
def Ud {N:Nat}(I:8000000000000<N) {w:AK}{b:AF}{H:Int}{W:Nat}(V:w.s.B=H) (X:W≤1000) (C:JY b.A.length W w.s.G) {p:Nat}(Y:p<b.A.length) {e:AC}(o:tH b W p e) (d:w.s.O.length=W) (D:w.moves.length≤1000000) (hs:w.sent.length≤1000000):
  ∃r l x t,HW N w (p:Int) e=some r∧w.s.G[p]? =some x∧e.take x=some (t,Ja x t)∧WW t x∧r.1=upd w.s.G (p:Int) (Ja x t)∧U8 b H N W p w.s.G w.s.O w.moves w.sent r.1 r.2.1 r.2.2.1 r.2.2.2 l∧l=if t.sum≤0 then [] else [⟨H,(p:Int),e.to_,e.way,t⟩]:=by
 obtain⟨x,Z,c,n⟩:=C.ix Y;obtain⟨t,F,u⟩:=o.tk x n;obtain⟨Q,s2,i⟩:=u.sub n;have J:w.s.G.getD p []=x:=by simp [Ab1,c]
 have v:Fs (upd w.s.G (p:Int) (Ja x t))=Fs w.s.G-t.sum:=by rw[QS c,s2];omega
 unfold HW;rw[Z,Aap,Aap,F,Aap,Aap,Aap,i.total I X,Aap];by_cases h0:t.sum≤0
 ·rw[Aba h0,Aaq];have hz:Ja x t=x:=Yo n.len i.len (VM i.nn h0);refine⟨_,[],x,t,rfl,c,F,u,rfl,?_,by rw[Aav h0]⟩;show U8 b H N W p w.s.G w.s.O w.moves w.sent (upd w.s.G (p:Int) (Ja x t)) w.s.O w.moves w.sent []
  rw[hz,Vd c];exact U8.nil C d
 ·have y:yA b H W p ⟨H,(p:Int),e.to_,e.way,t⟩:=⟨rfl,rfl,o.way,o.to,i,by show 0<t.sum;omega⟩
  have j:RC [(⟨H,(p:Int),e.to_,e.way,t⟩:AT)] w.s.G:=⟨⟨x,by show w.s.G[((p:Int)).toNat]? =_;rw[Abx];exact c,u⟩,trivial⟩
  have k:upd w.s.G (p:Int) (Ja x t)=Rs w.s.G [(⟨H,(p:Int),e.to_,e.way,t⟩:AT)]:=by
   show _=upd w.s.G (p:Int) (Ja (w.s.G.getD ((p:Int)).toNat []) t)
   rw[Abx,J]
  rw[Aaz h0,Aar,GI (by simp;omega),V];by_cases g:e.to_= -1
  ·obtain⟨a,U,K⟩:=bS I (p:=w.s.O) (q:=t) (by omega) (by rw[i.len];omega);rw[Aba g,Aaq,U,Aap];refine⟨_,[⟨H,(p:Int),e.to_,e.way,t⟩],x,t,rfl,c,F,u,rfl,⟨λm D=>by rw[Ab0.1 D];exact y,rfl,k,?_,?_,j,C.upd _ Q,?_,?_⟩,by rw[Aas h0]⟩
   ·show a=if e.to_<0 then (HY N w.s.O t).getD [] else _
    rw[Aav (by omega),U];rfl
   ·show w.sent=w.sent++_
    rw[show ([(⟨H,(p:Int),e.to_,e.way,t⟩:AT)].filterMap (MF b H))=[] by simp [MF,g],Ab2]
   ·show a.length=W
    rw[K,d,i.len,Nat.max_self]
   ·show Fs (upd _ _ _)+LU _=_
    rw[v];simp [LU]
  ·have z:=o.to.resolve_left g;rw[Aaz g,Aar,gZ I _ z.1 (by rw[i.len];omega) i.nn (by omega),Aap,GI (by simp;omega)];refine⟨_,[⟨H,(p:Int),e.to_,e.way,t⟩],x,t,rfl,c,F,u,rfl,⟨λm D=>by rw[Ab0.1 D];exact y,rfl,k,?_,?_,j,C.upd _ Q,d,?_⟩,by rw[Aas h0]⟩
   ·show w.s.O=if e.to_<0 then _ else w.s.O
    rw[Aas (by omega)]
   ·show w.sent++_=w.sent++_
    congr 1;have M:¬e.to_<0:=by omega
    simp only[List.filterMap_cons,List.filterMap_nil,MF,Aas M,Abx];rw[o.dl]
   ·show Fs (upd _ _ _)+LU _=_
    rw[v];simp [LU]
def QK {N W:Nat}(a:18446744073709551616<N) (b:W≤64) (n:Int):∀x,PX W x→∃t,AJ N n x=some (t,Ja x t)∧WW t x∧t.sum=max 0 (min n x.sum):=λx c=>by
 obtain⟨t,e,d,g⟩:=gI a b c n;unfold AJ;rw[e,Aap];exact⟨t,rfl,d,g⟩
def iI {N W:Nat}(a:8000000000000<N) (d:W≤64) (t:E4):∀x,PX W x→∃y,D4 N t x=some (y,Ja x y)∧WW y x:=λx b=>by
 obtain⟨y,e,c,_⟩:=iJ a (by omega) b t.Bh t.Bd;unfold D4;rw[e,Aap];exact⟨y,rfl,c⟩
def XL (b:AF) (W p:Nat) (l:List AC):Prop:=∀e∈l,tH b W p e
def XL.snoc {b:AF}{W p:Nat}{l:List AC}(d:XL b W p l) {e:AC}(c:tH b W p e):XL b W p (l++[e]):=λx a=>by
 rcases Abp.1 a with a|a
 ·exact d x a
 ·rw[Ab0.1 a];exact c
def sl (N:Nat) (a b:Int):Int:=(Gf N a b).getD 0
def slN {b a q r:Nat}(hd:0<a) (g:b≤a) (c:q=b*1099511627776/a) (d:r=b*1099511627776%a):q≤1099511627776∧b*1099511627776=q*a+r∧r<a:=by
 refine⟨?_,by rw[c,d];exact YE _ _,by rw[d];exact Acq _ hd⟩;rw[c];exact Nat.div_le_of_le_mul (by rw[Add a];rw[Add b];exact Nat.mul_le_mul_left _ g)
structure tM (N:Nat) (b:AF) (l:A8):Prop where
 base:KA b l
 gate:l.F=0→IJ N l.Ad.Av l.As=some true∧IJ N l.As l.Ad.Aw=some true∧(0≤l.V∧l.V≤64)∧(0≤l.Ag∧l.Ag≤l.V)∧(0≤l.Bb∧l.Bb≤1125899906842624)∧(l.Al=0→l.Aq=0)∧(l.E≠ -1∨l.Al=0)
 weir:l.F=1∨l.F=5→0≤l.Bc∧l.Bc≤1125899906842624
 pump:l.F=2→(0≤l.Y∧l.Y≤1125899906842624)∧(1≤l.V∧l.V≤64)∧(0≤l.Ag∧l.Ag≤l.V)
 siph:l.F=3→(0≤l.Ay∧l.Ay≤1125899906842624)∧(0≤l.Az∧l.Az≤1125899906842624)∧l.Az<l.Ay
 seep:l.F=4→(l.Al=0→l.Aq=0)
 none_:l.F≠0→l.F≠2→l.V=0∧l.Ag=0
def X3 {a b:Int}(d:T5 a b=true):b=0→a=0:=by
 intro c;simp only[T5,Aax,Abh,Abd] at d;exact d.2.resolve_left λd=>d c
def Wx {N:Nat}(t:18446744073709551616<N) {b:AF}{l:A8}(d:KA b l) (W:GL N l=some true) (a:FK N l=some true):tM N b l:=by
 have H:=d.kind;have k:l.F≠0→l.F≠2→l.V=0∧l.Ag=0:=by
  intro h0 g;unfold FK at a;rw[Aaz h0,Aba g] at a;simp only[Bool.not_false,Bool.true_and] at a;cases n:(decide (0<(l.As.length:Int))||decide (0<(l.Ad.Av.length:Int))||decide (0<(l.Ad.Aw.length:Int))||decide (l.Bb≠0)) with
  |true=>rw[n] at a;cases a
  |false=>
   rw[n,Aar] at a;cases i:(decide (l.V≠0)||decide (l.Ag≠0)) with
   |true=>rw[i] at a;cases a
   |false=>
    simp only[Abk,Abe] at i;exact⟨Decidable.not_not.1 i.1,Decidable.not_not.1 i.2⟩
 unfold GL at W;by_cases k0:l.F=0
 ·obtain⟨n,i,A,I,J⟩:=d.gate k0;obtain⟨K,u⟩:=QE t l.Ad.Av l.As;obtain⟨M,v⟩:=QE t l.As l.Ad.Aw;rw[Aba k0,Aaq,Py (by omega) n,Py (by omega) i,Py (by omega) A] at W;simp only[u,v,NV,L8,Qb,Aap,Gh,Pz] at W;have W:=Aat W;simp only[Aax,Abh,Abd] at W;obtain⟨⟨⟨⟨⟨⟨⟨⟨⟨_,_⟩,_⟩,o⟩,q⟩,B⟩,C⟩,D⟩,G⟩,s⟩:=W;subst o;subst q;exact⟨d,λ_=>⟨u,v,Kw B,Kw C,Ky D,X3 G,s⟩,λW=>by omega,λW=>by omega,λW=>by omega,λW=>by omega,k⟩
 ·rw[Aaz k0,Aar] at W;have w:∀c:Bool,(c=true↔l.F=1∨l.F=5)→EI N l c=some true→tM N b l:=by
   intro c x W;unfold EI at W;simp only[NV,L8,Qb,Aap,Gh,Pz] at W;cases c
   ·have Q:¬(l.F=1∨l.F=5):=λW=>by have:=x.2 W;cases this
    rw[Aar] at W;by_cases y:l.F=2
    ·rw[Aba y,Aaq] at W;have W:=Aat W;simp only[Aax] at W;obtain⟨⟨m,g⟩,j⟩:=W;exact⟨d,λW=>by omega,λW=>by omega,λ_=>⟨Ky m,Kw g,Kw j⟩,λW=>by omega,λW=>by omega,k⟩
    ·rw[Aaz y,Aar] at W;by_cases z:l.F=3
     ·rw[Aba z,Aaq] at W;have W:=Aat W;simp only[Aax,Abd] at W;obtain⟨⟨⟨⟨m,g⟩,j⟩,o⟩,q⟩:=W;exact⟨d,λW=>by omega,λW=>by omega,λW=>by omega,λ_=>⟨Ky j,Ky o,q⟩,λW=>by omega,k⟩
     ·rw[Aaz z,Aar] at W;have W:=Aat W;simp only[Aax,Abd] at W;obtain⟨⟨⟨m,g⟩,j⟩,o⟩:=W;exact⟨d,λW=>by omega,λW=>by omega,λW=>by omega,λW=>by omega,λ_=>X3 j,k⟩
   ·have U:=x.1 rfl;rw[Aaq] at W;have W:=Aat W;simp only[Aax] at W;obtain⟨⟨m,g⟩,j⟩:=W;exact⟨d,λW=>by omega,λ_=>Ky m,λW=>by omega,λW=>by omega,λW=>by omega,k⟩
  by_cases p:l.F=1
  ·rw[Aba p,Aaq] at W;exact w true (by simp [p]) W
  ·rw[Aaz p,Aar] at W;exact w _ (by simp [p]) W
def ZF {N:Nat}(c:18446744073709551616<N) {b:AF}(d:Ig b) (p:∀l∈b.C,KA b l) (z:Ew N b=some true):∀l∈b.C,tM N b l:=by
 have v:=d.pl;have w:=d.li;unfold Ew at z;rcases Jd b.C.length (CS N b (Dd N)) (Dd N) (λi=>∀l,b.C[i]? =some l→tM N b l) (λn k z=>by
  simp only[CS];rw[Ft z];rfl) (λn k z=>by
  simp only[CS];obtain⟨x,g,y⟩:=T9 c b.C[k];obtain⟨q,j⟩:=Tl N b.C[k];rw[FW z,Aaq,BB z];simp only[Aap,NV,QZ N _ (show b.A.length<4611686018427387904 by omega),Qt N b _ _ (show b.A.length<4611686018427387904 by omega),g,j,Gh,LW,A9 (show k<4611686018427387904 by omega)];generalize m:(_|| !q)=B
  cases B
  ·simp only[Abk,Ac4] at m;obtain⟨⟨_,s⟩,t⟩:=m;subst s;subst t;refine .inr ⟨λl a=>?_,rfl⟩;have:l=b.C[k]:=by simpa [z] using a.symm
   rw[this];exact Wx c (p _ (Aa9 z)) g j
  ·exact .inl rfl) N 0 (by omega) (Aaw _) with u|⟨hp,_⟩
 ·rw[show CS N b (Dd N) N 0=some false from u] at z;cases z
 ·intro l a;obtain⟨i,o,rfl⟩:=Aef.1 a;exact hp i (Aaw _) o _ (by simp [o])
def Holds (n:Nat) (s:List Int) (g:Nat→Int):Prop:=s.length=n∧∀i,i<n→s[i]? =some (g i)
def Holds.ix {n:Nat}{s:List Int}{g:Nat→Int}(c:Holds n s g) {a:Int}(h0:0≤a) (b:a<n):ix s a=some (g a.toNat):=by
 unfold Go.Proofs.YtabonambpbofgaaGreat.ix;rw[Aas (by omega)];exact c.2 _ (by omega)
def Holds.upd {n:Nat}{s:List Int}{g:Nat→Int}(j:Holds n s g) {a:Int}(h0:0≤a) (c:a<n) (v:Int):Holds n (upd s a v) (λi=>if (i:Int)=a then v else g i):=by
 refine⟨by rw[La,j.1],λi b=>?_⟩;unfold Go.Proofs.YtabonambpbofgaaGreat.upd;rw[List.getElem?_set];have d:=j.1;show _=some (if (i:Int)=a then v else g i)
 by_cases e:(i:Int)=a
 ·rw[Aav (by omega),Aav (by omega),Aav e]
 ·rw[Aas (by omega),Aas e];exact j.2 i b
def Holds.congr {n:Nat}{s:List Int}{g a:Nat→Int}(c:Holds n s g) (e:∀i,i<n→g i=a i):Holds n s a:=⟨c.1,λi b=>(c.2 i b).trans (Aau some (e i b))⟩
def Aad (s:AN) (k:Nat):A0:=s.R.getD k default
structure eZ (W:Nat) (out:List Int) (ms:List AT) (sn:List AV) (M:Nat):Prop where
 out:out.length=W
 mv:ms.length≤M
 sn:sn.length≤M
def eZ.next {b:AF}{H:Int}{N W p M:Nat}{o m:List (List Int)}{out a:List Int}{i d:List AT}{j g:List AV}{l:List AT}(q:eZ W out i j M) (k:U8 b H N W p o out i j m a d g l) {c:Nat}(n:l.length≤c):eZ W a d g (M+c):=
 ⟨k.ol,by rw[k.ms_,Abi];have:=q.mv;omega,by
  rw[k.sn_,Abi];have:=List.length_filterMap_le (MF b H) l;have:=q.sn;omega⟩
def eZ.le {W M a:Nat}{out:List Int}{b:List AT}{c:List AV}(g:eZ W out b c M) (d:M≤a):eZ W out b c a:=⟨g.out,Ab5 g.mv d,Ab5 g.sn d⟩
def Uf {α}{c:Prop}[Decidable c] {x:α}:(if c then [] else [x]).length≤1:=by split<;>simp
structure zI (b:AF) (s:AN):Prop where
 own:JY b.A.length b.H.length s.G
 que:QX b.A.length b.H.length s.I
 tot:Fs s.G+HK s.I≤1125899906842624
 rem:s.N.length=b.A.length
 gates:s.R.length=b.C.length
 inn:s.L.length=b.H.length
 inn0:∀x∈s.L,0≤x
 inns:s.L.sum≤1152921504606846976
 out:s.O.length=b.H.length
structure xK (b:AF) (H:Int) (N W k:Nat) (o:List (List Int)) (out:List Int) (ms:List AT) (o':List (List Int)) (out':List Int) (ms':List AT) (sn':List AV) (l:List AT):Prop where
 mv:∀m∈l,∃p,p<k∧yA b H W p m
 ord:l.Pairwise λa c=>a.M≤c.M
 ms_:ms'=ms++l
 own:o'=Rs o l
 out_:out'=Tb N out l
 sn_:sn'=l.filterMap (MF b H)
 val:RC l o
 ox:JY b.A.length W o'
 ol:out'.length=W
 tot:Fs o'+LU l=Fs o
def xK.next {b:AF}{H:Int}{N W k:Nat}{o y t:List (List Int)}{out g d:List Int}{z u n:List AT}{v s:List AV}{l A:List AT}(I:xK b H N W k o out z y g u v l) (q:U8 b H N W k y g u v t d n s A):xK b H N W (k+1) o out z t d n s (l++A):=
 ⟨λm w=>(Abp.1 w).elim (λw=>by obtain⟨p,B,x⟩:=I.mv m w;exact⟨p,by omega,x⟩) (λw=>⟨k,by omega,q.mv m w⟩),
  List.pairwise_append.2 ⟨I.ord,Aec.2 λi j C D _=>by
  rw[(q.mv _ (Aa9 C)).fr,(q.mv _ (Aa9 D)).fr];exact Abo _,λa F c G=>by
  obtain⟨p,B,x⟩:=I.mv a F;rw[x.fr,(q.mv c G).fr];omega⟩,
  by rw[q.ms_,I.ms_,Abz],by rw[q.own,I.own];unfold Rs;rw[Adq],by rw[q.out_,I.out_];unfold Tb;rw[Adq],by rw[q.sn_,I.sn_,List.filterMap_append],I.val.app (by rw[←I.own];exact q.val),q.ox,q.ol,by rw[Vu];have:=I.tot;have:=q.tot;omega⟩
def Ts {N:Nat}(a:8000000000000<N) (p:List Int) (W:Nat):∃v,KE N p (W:Int)=some v∧(v=true→PX W p∧W≤16):=by
 unfold KE;cases b:((decide (0≤(W:Int))&&decide ((W:Int)≤16))&&decide ((p.length:Int)=(W:Int)))
 ·exact⟨_,rfl,λd=>by cases d⟩
 ·simp only[Aax,Abd] at b;obtain⟨v,c,k⟩:=Y7 a (p:=p) (by omega);rw[Aaq,c];exact⟨_,rfl,λd=>⟨⟨by omega,(k d).1,(k d).2⟩,by omega⟩⟩
def VX {N:Nat}(q:8000000000000<N) {l:List Int}(t:l.length≤1000) {m:Int}(d:0≤m∧m≤2305843009213693952):∃r,JO N l m=some r∧(r.2=true→(∀x∈l,0≤x)∧l.sum≤m∧r.1=l.sum):=by
 unfold JO;rcases My l.length (λn i s=>GP N l m (Hr N) n s i) (Hr N) (some (0,false)) (λk s=>(∀x∈l.take k,0≤x)∧s=(l.take k).sum∧s≤m∧0≤s) (λn k s a=>by
  simp only[GP];rw[Ft a];rfl) (λn k s g a=>by
  obtain⟨b,c,j,o⟩:=g;simp only[GP];rw[FW a,Aaq,BB a,Aap,A9 (by omega),D5 (n:=m-s) (by omega) (by omega)];cases p:(decide (l[k]<0)||decide (m-s<l[k]))
  ·simp only[Abk,Abe] at p;rw[Aar,D5 (n:=s+l[k]) (by omega) (by omega)];exact .inr ⟨_,⟨Lc a b (by omega),by rw[KR a,c],by omega,by omega⟩,rfl⟩
  ·exact .inl rfl) N 0 0 ⟨by simp,rfl,d.1,Abo _⟩ (by omega) (Aaw _) with e|⟨s,⟨b,c,j,o⟩,e⟩
 ·exact⟨_,e,λu=>by cases u⟩
 ·rw[Abu] at b c;exact⟨_,e,λ_=>⟨b,by omega,c⟩⟩
def ZE {N:Nat}(j:8000000000000<N) (b:AF) (s:AN) (V:s.G.length≤1000) (X:s.I.length≤4000000000000):∃r,KV N b s=some r∧(r.2=true→(∀x∈s.G,PX b.H.length x)∧(∀l∈s.I,(PX b.H.length l.W∧0≤l.E∧l.E<b.A.length)∧s.B≤l.Ba∧0<l.W.sum)∧r.1=Fs s.G+HK s.I∧r.1≤1125899906842624):=by
 unfold KV;rcases My s.G.length (λn i t=>Fw N b s (Fx N b s) n t i) (Fx N b s) (some (0,false)) (λk t=>(∀x∈s.G.take k,PX b.H.length x)∧t=Fs (s.G.take k)∧0≤t∧t≤1125899906842624) (λn k t a=>by
  simp only[Fw];rw[Ft a];rfl) (λn k t q a=>by
  obtain⟨m,w,D,F⟩:=q;simp only[Fw];obtain⟨v,y,z⟩:=Ts j s.G[k] b.H.length;rw[FW a,Aaq,BB a,Aap,y,Aap,A9 (by omega)];cases v
  ·exact .inl rfl
  ·obtain⟨c,d⟩:=z rfl;have M:=c.mv;have Q:=c.sum0;rw[Aby,Aar,c.total j (by omega),Aap,D5 (n:=t+(s.G[k]).sum) (by omega) (by omega)];by_cases g:1125899906842624<t+(s.G[k]).sum
   ·rw[Aba g];exact .inl rfl
   ·rw[Aaz g];exact .inr ⟨_,⟨Lc a m c,by rw[NT a,w],by omega,by omega⟩,rfl⟩) N 0 0 ⟨by simp,rfl,Abo _,by decide⟩ (by omega) (Aaw _) with e|⟨t,⟨m,w,D,F⟩,e⟩
 ·exact⟨_,e,λZ=>by cases Z⟩
 ·rw[show Fw N b s (Fx N b s) N 0 0=Fx N b s t from e];rw[Abu] at m w;unfold Fx;rcases My s.I.length (λn i t=>Gt N b s (IM N) n t i) (IM N) (some (0,false)) (λk u=>(∀l∈s.I.take k,(PX b.H.length l.W∧0≤l.E∧l.E<b.A.length)∧s.B≤l.Ba∧0<l.W.sum)∧u=t+HK (s.I.take k)∧0≤u∧u≤1125899906842624) (λn k t a=>by
   simp only[Gt];rw[Ft a];rfl) (λn k u q a=>by
   obtain⟨o,C,U,J⟩:=q;simp only[Gt];obtain⟨v,y,z⟩:=Ts j (s.I[k]).W b.H.length;rw[FW a,Aaq,BB a,A9 (by omega)];simp only[Aap,NQ,y,Gh];cases g:cond (decide ((s.I[k]).Ba<s.B)) true (!(decide (0≤(s.I[k]).E)&&decide ((s.I[k]).E<(b.A.length:Int))))
   ·rw[LW,Abk] at g;obtain⟨K,p⟩:=g;have K:=Ad1 K;rw[Ac4] at p;obtain⟨p,Y⟩:=Qa.1 p;cases v
    ·exact .inl rfl
    ·obtain⟨c,d⟩:=z rfl;have M:=c.mv;have Q:=c.sum0;simp only[Aby,Aar];rw[c.total j (by omega),Aap,D5 (n:=u+(s.I[k]).W.sum) (by omega) (by omega)];cases hd:(decide ((s.I[k]).W.sum≤0)||decide (1125899906842624<u+(s.I[k]).W.sum))
     ·simp only[Abk,Abe] at hd;exact .inr ⟨_,⟨Lc a o ⟨⟨c,p,by omega⟩,by omega,by omega⟩,by rw[MV a,C];omega,by omega,by omega⟩,rfl⟩
     ·exact .inl rfl
   ·exact .inl rfl) N 0 t ⟨by simp,by simp [HK],D,F⟩ (by omega) (Aaw _) with d|⟨u,⟨o,C,U,J⟩,d⟩
  ·exact⟨_,d,λZ=>by cases Z⟩
  ·rw[Abu] at o C;exact⟨_,d,λ_=>⟨m,o,by show u=_;omega,J⟩⟩
structure Aah (b:AF) (s:AN):Prop where
 x:zI b s
 hour:0≤s.B∧s.B≤16777216
 gts:∀(k:Nat) l g,b.C[k]? =some l→s.R[k]? =some g→(0≤g.Z∧g.Z≤l.V)∧(0≤g.Aa∧g.Aa≤l.V)
 at_:∀l∈s.I,s.B≤l.Ba∧0<l.W.sum
 out0:∀x∈s.O,0≤x
 outs:s.O.sum≤s.L.sum+1125899906842624-(Fs s.G+HK s.I)
structure Zd (b:AF) (s:AN):Prop where
 rg:Aah b s
 rem:∀(k:Nat) p m,b.A[k]? =some p→s.N[k]? =some m→0≤m∧m≤max 0 (p.S-1)
 opn:∀(k:Nat) l g,b.C[k]? =some l→s.R[k]? =some g→g.Am=true→l.F=5∨l.F=3
def Yv {N:Nat}(M:8000000000000<N) {b:AF}(Q:Ig b) (w:∀p∈b.A,Il b p) (s:AN) (hq:s.I.length≤4000000000000):∃v,KD N b s=some v∧(v=true→Zd b s):=by
 have hP:=Q.pl;have hL:=Q.li;have hW:=Q.own;unfold KD;generalize hB:(_||decide ((s.O.length:Int)≠(b.H.length:Int)))=B
 cases B
 ·simp only[Abk,Abe,ne_eq,Decidable.not_not] at hB;obtain⟨⟨⟨⟨⟨⟨b1,b2⟩,b3⟩,b4⟩,b5⟩,b6⟩,b7⟩:=hB;rw[Aar];rcases My b.A.length (λn i (_:Unit)=>Gm N b s (Gp N b s) n i) (λ_=>Gp N b s) (some false) (λi _=>∀(k:Nat) p m,k<i→b.A[k]? =some p→s.N[k]? =some m→0≤m∧m≤max 0 (p.S-1)) (λn k t c=>by
   simp only[Gm];rw[Ft c];rfl) (λn k t U c=>by
   simp only[Gm];have y:k<s.N.length:=by omega
   have hd:=(w _ (Aa9 c)).den;unfold Jc at hd;rw[FW c,Aaq,BB c,BB y,A9 (by omega)];simp only[Aap,Gh,LW];rw[D5 (n:=(b.A[k]).S-1) (by omega) (by omega)];cases K:(decide (s.N[k]<0)||decide (max 0 ((b.A[k]).S-1)<s.N[k]))
   ·simp only[Abk,Abe] at K;refine .inr ⟨(),λj p m hj q z=>?_,rfl⟩;by_cases d:j=k
    ·subst d;rw[Aa1 c] at q;rw[Aa1 y] at z;cases q;cases z;omega
    ·exact U j p m (by omega) q z
   ·exact .inl rfl) N 0 () (λk p m h=>by omega) (by omega) (Aaw _) with e|⟨_,i1,e⟩
  ·exact⟨_,e,λh=>by cases h⟩
  ·rw[show Gm N b s (Gp N b s) N 0=Gp N b s from e];unfold Gp;rcases My b.C.length (λn i (_:Unit)=>Gl N b s (Gn N b s) n i) (λ_=>Gn N b s) (some false) (λi _=>∀(k:Nat) l g,k<i→b.C[k]? =some l→s.R[k]? =some g→((0≤g.Z∧g.Z≤l.V)∧(0≤g.Aa∧g.Aa≤l.V))∧(g.Am=true→l.F=5∨l.F=3)) (λn k t c=>by
    simp only[Gl];rw[Ft c];rfl) (λn i t U c=>by
    simp only[Gl];have y:i<s.R.length:=by omega
    rw[FW c,Aaq,BB c,BB y,A9 (by omega)];simp only[Aap];cases K:(((decide ((s.R[i]).Z<0)||decide ((b.C[i]).V<(s.R[i]).Z))||decide ((s.R[i]).Aa<0))||decide ((b.C[i]).V<(s.R[i]).Aa))
    ·simp only[Abk,Abe] at K;obtain⟨⟨⟨c1,c2⟩,c3⟩,c4⟩:=K;rw[Aar];cases W:(((s.R[i]).Am&&decide ((b.C[i]).F≠5))&&decide ((b.C[i]).F≠3))
     ·refine .inr ⟨(),λk l g ae a o=>?_,rfl⟩;by_cases d:k=i
      ·subst d;rw[Aa1 c] at a;rw[Aa1 y] at o;cases a;cases o;refine⟨⟨⟨by omega,by omega⟩,by omega,by omega⟩,λX=>?_⟩;rw[X,Bool.true_and,Bool.and_eq_false_iff] at W;simp only[Abe,ne_eq,Decidable.not_not] at W;exact W
      ·exact U k l g (by omega) a o
     ·exact .inl rfl
    ·exact .inl rfl) N 0 () (λk l g h=>by omega) (by omega) (Aaw _) with e|⟨_,i2,e⟩
   ·exact⟨_,e,λh=>by cases h⟩
   ·rw[show Gl N b s (Gn N b s) N 0=Gn N b s from e];unfold Gn;obtain⟨r,er,Y⟩:=ZE M b s (by omega) hq;rw[er,Aap];cases aa:r.2
    ·exact⟨_,rfl,λh=>by cases h⟩
    ·obtain⟨Y,k2,k3,k4⟩:=Y aa;have D:JY b.A.length b.H.length s.G:=⟨by omega,Y⟩
     have J:QX b.A.length b.H.length s.I:=λl a=>(k2 l a).1;have af:=D.sum0;have ab:=(H9 J 0).2;rw[Acl,show HK ([]:List AV)=0 from rfl] at ab;obtain⟨u,hu,ku⟩:=VX M (l:=s.L) (by omega) (m:=1152921504606846976) (by decide);rw[Aby,Aar,hu,Aap];cases ac:u.2
     ·exact⟨_,rfl,λh=>by cases h⟩
     ·obtain⟨u1,u2,u3⟩:=ku ac;have u0:=KN u1;rw[D5 (n:=u.1+1125899906842624) (by omega) (by omega),D5 (n:=u.1+1125899906842624-r.1) (by omega) (by omega)];obtain⟨x,hx,kx⟩:=VX M (l:=s.O) (by omega) (m:=u.1+1125899906842624-r.1) ⟨by omega,by omega⟩;rw[Aby,Aar,hx,Aap];refine⟨_,rfl,λad=>?_⟩;obtain⟨x1,x2,x3⟩:=kx ad;exact⟨⟨⟨D,J,by omega,by omega,by omega,by omega,u1,u2,by omega⟩,⟨by omega,by omega⟩,λk l g a o=>(i2 k l g (Aa4.1 a).1 a o).1,λl a=>(k2 l a).2,x1,by omega⟩,λk p m q z=>i1 k p m (Aa4.1 q).1 q z,λk l g a o=>(i2 k l g (Aa4.1 a).1 a o).2⟩
 ·exact⟨_,rfl,λh=>by cases h⟩
end Go.Proofs.YtabonambpbofgaaGreat
