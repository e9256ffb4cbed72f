import Derived.Test.YtedgiljmffngoaaGreatPPureEy
import Derived.Test.YtedgiljmffngoaaGreatPPureEx
namespace Go.Proofs.YtedgiljmffngoaaGreat
set_option linter.all false
open Go.RowKit
structure Ie (P W:Nat) (o:List (List Int)):Prop where
 len:o.length=P
 all:∀x∈o,PX W x
def E4 (o:List (List Int)):Int:=(o.map List.sum).sum
def GX (q:List AO):Int:=(q.map λl=>l.K.sum).sum
def Ie.ix {P W:Nat}{o:List (List Int)}(c:Ie P W o) {k:Nat}(a:k<P):∃x,Go.Proofs.YtedgiljmffngoaaGreat.ix o (k:Int)=some x∧o[k]? =some x∧PX W x:=by
 obtain⟨x,e,b⟩:=zE (l:=o) (i:=k) (by rw[c.len];exact a);exact⟨x,e,by rw[BM (by rw[c.len];exact a)] at e;rw[Aao (by rw[c.len];exact a)];exact e,c.all x b⟩
def Ie.upd {P W:Nat}{o:List (List Int)}(c:Ie P W o) (i:Int) {x:List Int}(b:PX W x):Ie P W (upd o i x):=
 ⟨by rw[MV];exact c.len,λy a=>by
  rcases Adj a with a|rfl
  ·exact c.all y a
  ·exact b⟩
def Ie.nn {P W:Nat}{o:List (List Int)}(c:Ie P W o):∀x∈o.map List.sum,0≤x:=λx a=>by
 obtain⟨y,b,rfl⟩:=Abg.1 a;exact(c.all y b).sum0
def Qo {o:List (List Int)}{k:Nat}{x y:List Int}(a:o[k]? =some x):E4 (upd o (k:Int) y)=E4 o-x.sum+y.sum:=by
 have b:=(Aai.1 a).1;have c:=(Aai.1 a).2;unfold E4 upd;rw[Abh,List.map_set,Nr (by simpa using b),List.getElem_map,c]
def Ie.le {P W:Nat}{o:List (List Int)}(b:Ie P W o) {k:Nat}{x:List Int}(a:o[k]? =some x):x.sum≤E4 o:=Hw b.nn _ (Abg.2 ⟨x,Abf a,rfl⟩)
def Ie.sum0 {P W:Nat}{o:List (List Int)}(a:Ie P W o):0≤E4 o:=Jz a.nn
def NZ {o:List (List Int)}{k:Nat}(a:k<o.length):E4 (o.take (k+1))=E4 (o.take k)+(o[k]).sum:=MM a
def MK {q:List AO}{k:Nat}(a:k<q.length):GX (q.take (k+1))=GX (q.take k)+(q[k]).K.sum:=MM (f:=λl:AO=>l.K.sum) a
def Nz {P W:Nat}{o:List (List Int)}(a:Ie P W o) (k:Nat):0≤E4 (o.take k)∧E4 (o.take k)≤E4 o:=by
 have:=Iy a.nn k;rw[←List.map_take] at this;exact this
def QX (P W:Nat) (q:List AO):Prop:=∀l∈q,PX W l.K∧0≤l.B∧l.B<P
def QX.nn {P W:Nat}{q:List AO}(c:QX P W q):∀x∈q.map (λl=>l.K.sum),0≤x:=λx a=>by
 obtain⟨y,b,rfl⟩:=Abg.1 a;exact(c y b).1.sum0
def GZ {P W:Nat}{q:List AO}(a:QX P W q) (k:Nat):0≤GX (q.take k)∧GX (q.take k)≤GX q:=by
 have:=Iy a.nn k;rw[←List.map_take] at this;exact this
def v1 (W:Nat) (n:Int):List Int:=upd (List.replicate W 0) 0 n
def Lw (W:Nat) (n:Int):(v1 W n).length=W:=by unfold v1;rw[MV];simp
def RJ {W:Nat}(a:1≤W) (n:Int):(v1 W n).sum=n:=by
 unfold v1 upd;rw[show (0:Int).toNat=0 from rfl,Nr (by simp;omega)];simp
def aB {W:Nat}(c:1≤W) {n:Int}(h0:0≤n) (b:n≤1125899906842624):PX W (v1 W n):=
 ⟨Lw W n,λx a=>by
  rcases Adj a with a|rfl
  ·rw[(List.mem_replicate.1 a).2];exact Aa6 0
  ·exact h0,by rw[RJ c];exact b⟩
def PW (W:Nat):v1 W 0=List.replicate W 0:=by
 unfold v1 upd;apply Abj;intro i;by_cases a:0=i
 ·subst a;rcases Adw W with a|a
  ·subst a;rfl
  ·rw[show (0:Int).toNat=0 from rfl,Acm (by simp;omega),Aco,Aab a]
 ·rw[show (0:Int).toNat=0 from rfl,Acd a]
def RI {W:Nat}{p:List Int}(b:p.length=W):GA p (List.replicate W 0)=p:=by
 apply Abj;intro i;rw[GA,Acl,Aco];rcases Aar i W with a|a
 ·rw[Aab a,Aao (by omega)];simp
 ·rw[zY (by omega),Aa8 (show p.length≤i by omega)]
def Si:∀(p q r:List Int),GA (GA p q) r=GA p (GA q r)
 |[],_,_=>by simp [GA]
 |_::_,[],_=>by simp [GA]
 |_::_,_::_,[]=>by simp [GA]
 |a::p,b::q,c::r=>by
  have:=Si p q r;simp only[GA,List.zipWith_cons_cons] at this ⊢;rw[this,Int.add_assoc]
def Xh {W:Nat}{p:List Int}(g:p.length=W) (d:1≤W) (n x:Int) (c:ix p 0=some x):upd p 0 (x+n)=GA p (v1 W n):=by
 have b:p[0]? =some x:=(Dy c).2;apply Abj;intro i;unfold v1 upd;rw[GA,Acl,show(0:Int).toNat=0 from rfl];by_cases a:0=i
 ·subst a;rw[Acm (by omega),Acm (by simp;omega),b]
 ·rw[Acd a,Acd a,Aco];rcases Aar i W with a|a
  ·rw[Aab a,Aao (show i<p.length by omega)];simp
  ·rw[zY (by omega),Aa8 (show p.length≤i by omega)]
def aC {W:Nat}(g:1≤W) (a b:Int):GA (v1 W a) (v1 W b)=v1 W (a+b):=by
 apply Abj;intro i;rw[GA,Acl];unfold v1 upd;rw[show (0:Int).toNat=0 from rfl];by_cases c:0=i
 ·subst c;rw[Acm (by simp;omega),Acm (by simp;omega),Acm (by simp;omega)]
 ·rw[Acd c,Acd c,Acd c,Aco];by_cases d:i<W<;>simp [d]
def Tm (H:Int) (W:Nat):Nat→List Int→List AI
 |_,[]=>[]
 |i,n::l=>(if 0<n then [⟨H, -1,(i:Int), -4,v1 W n⟩] else [])++Tm H W (i+1) l
def S5 (H:Int) (W:Nat) (n:Int):∀(l:List Int) (i:Nat),Tm H W i (l++[n])=Tm H W i l++(if 0<n then [⟨H, -1,((i+l.length:Nat):Int), -4,v1 W n⟩] else [])
 |[],i=>by simp [Tm]
 |a::l,i=>by
  have e:i+(a::l).length=i+1+l.length:=by simp;omega
  rw[Aa4,Tm,S5 H W n l (i+1),Tm,e,Ac6]
def Up (H:Int) (W:Nat):∀(l:List Int) (i:Nat),(Tm H W i l).length≤l.length
 |[],_=>by simp [Tm]
 |a::l,i=>by
  have:=Up H W l (i+1);rw[Tm,Aas];split<;>simp<;>omega
structure yP (w:AL) (W k:Nat) (l:List Int) (s:Int×Int×List AI×List (List Int)×List Int):Prop where
 ll:l.length=k
 l0:∀n∈l,0≤n
 ms:s.2.2.1=Tm w.s.C W 0 l
 own:Ie w.b.A.length W s.2.2.2.1
 lo:∀(i:Nat) x n,w.s.E[i]? =some x→l[i]? =some n→s.2.2.2.1[i]? =some (GA x (v1 W n))
 hi:∀i,k≤i→s.2.2.2.1[i]? =w.s.E[i]?
 th:s.1=E4 s.2.2.2.1+GX w.s.H∧s.1≤1125899906842624
 inn:s.2.2.2.2=GA w.s.N (v1 W l.sum)
 en:s.2.1=w.s.N.sum+l.sum∧s.2.1≤1152921504606846976
 os:E4 s.2.2.2.1=E4 w.s.E+l.sum
structure Zi (P W:Nat) (o:List (List Int)):Prop where
 len:o.length=P
 all:∀x∈o,x.length=W
def Zi.ix {P W:Nat}{o:List (List Int)}(c:Zi P W o) {k:Nat}(a:k<P):∃x,Go.Proofs.YtedgiljmffngoaaGreat.ix o (k:Int)=some x∧x.length=W:=by
 obtain⟨x,e,b⟩:=zE (l:=o) (i:=k) (by rw[c.len];exact a);exact⟨x,e,c.all x b⟩
def Zi.upd {P W:Nat}{o:List (List Int)}(c:Zi P W o) (i:Int) {x:List Int}(b:x.length=W):Zi P W (upd o i x):=
 ⟨by rw[MV];exact c.len,λy a=>by
  rcases Adj a with a|rfl
  ·exact c.all y a
  ·exact b⟩
def UW {N:Nat}(q:1000000<N) {s:AF}(t:s.E.length≤64) (g:∀x∈s.E,x.length≤1000) (u:s.M.length≤1000) (v:s.O.length≤1000) (w:s.N.length≤1000) (y:s.L.length≤1000):J6 N s=some s:=by
 unfold J6;rw[Ko (by omega) _ (by decide)];obtain⟨o,⟨z,j⟩,e⟩:=EI s.E.length (λn i l=>E9 N s (FA N s) n i l) (FA N s) (λk (l:List (List Int))=>l.length=s.E.length∧∀i,i<k→l[i]? =s.E[i]?) (λn k l a=>by
  simp only[E9];rw[E5 a];rfl) (λn k l d a=>by
  simp only[E9];have b:k<l.length:=by rw[d.1];exact a
  rw[Ef a,zV,BM a,zU,MQ N (by have:=g _ (Aap a);omega)];simp only[BM b,zU];rw[BK (by omega)];refine⟨_,⟨by rw[MV];exact d.1,λi m=>?_⟩,rfl⟩;by_cases c:k=i
  ·subst c;rw[GY b];simp [a]
  ·rw[IY c];exact d.2 i (by omega)) N 0 (List.replicate ((s.E.length:Int)).toNat ([]:List Int)) ⟨Ql _ _,λi d=>by omega⟩ (by omega) (Aad _)
 rw[show E9 N s (FA N s) N 0 _=FA N s o from e];have p:o=s.E:=Abj λi=>by
  rcases Aar i s.E.length with A|A
  ·exact j i A
  ·rw[Aa8 A,Aa8 (by omega)]
 subst p;unfold FA;rw[MQ N (by omega),zU,XK N (by omega),zU,MQ N (by omega),zU,MQ N (by omega),zU]
def zD (a:List Int) (i:Int):Int:=a.getD i.toNat 0
def oN {a:List Int}{i:Int}(h0:0≤i) (c:i<a.length):ix a i=some (zD a i):=by
 obtain⟨n,rfl,b⟩:=lX h0 c;rw[BM b];simp [zD,Aa5,b]
def Q3 (W:Nat) (t:Int) (q:List AO) (p:Nat):List Int:=(q.filter λl=>decide (l.Ao≤t)&&decide (l.B=(p:Int))).foldl (λa l=>GA a l.K) (List.replicate W 0)
def JG (t:Int) (q:List AO):List AO:=q.filter λl=>decide (t<l.Ao)
def Rq {W:Nat}{t:Int}{q:List AO}{p k:Nat}(d:k<q.length):Q3 W t (q.take (k+1)) p=if (q[k]).Ao≤t∧(q[k]).B=(p:Int) then GA (Q3 W t (q.take k) p) (q[k]).K else Q3 W t (q.take k) p:=by
 unfold Q3;rw[Ab6 d,Ac0,Ada];by_cases a:(q[k]).Ao≤t∧(q[k]).B=(p:Int)
 ·rw[Aab a];simp [a.1,a.2]
 ·rw[zY a];have:(decide ((q[k]).Ao≤t)&&decide ((q[k]).B=(p:Int)))=false:=by
   rw[Ady];simp only[Aat];by_cases b:(q[k]).Ao≤t
   ·exact .inr λc=>a ⟨b,c⟩
   ·exact .inl b
  simp [this]
def S7 {t:Int}{q:List AO}{k:Nat}(b:k<q.length):JG t (q.take (k+1))=if (q[k]).Ao≤t then JG t (q.take k) else JG t (q.take k)++[q[k]]:=by
 unfold JG;rw[Ab6 b,Ac0];by_cases a:(q[k]).Ao≤t
 ·rw[Aab a];simp;omega
 ·rw[zY a];have:t<(q[k]).Ao:=by omega
  simp [this]
def V4 (a b:List AO):GX (a++b)=GX a+GX b:=by unfold GX;rw[Abt,Abq]
structure zT (P W:Nat) (t:Int) (q:List AO) (k:Nat) (s:List AO×List (List Int)):Prop where
 rest:s.1=JG t (q.take k)
 own:Ie P W s.2
 at_:∀p,p<P→s.2[p]? =some (Q3 W t (q.take k) p)
 tot:E4 s.2+GX s.1=GX (q.take k)
def V8 (W:Nat):∀P:Nat,E4 (List.replicate P (List.replicate W 0))=0
 |0=>rfl
 |P+1=>by
  have:=V8 W P;unfold E4 at this ⊢;rw[List.replicate_succ,Aaz,Aba,this,Xt];rfl
def pH {N:Nat}(Y:1000000<N) {P W:Nat}(hP:P≤64) (hW:W≤16) {q:List AO}(hq:q.length≤100000) (c:QX P W q) (Z:GX q≤1125899906842624) (t:Int):
  ∃s,Lo N q t (P:Int) (W:Int)=some (s.2,s.1)∧zT P W t q q.length s:=by
 unfold Lo;rw[O8,zU,O8,zU,zY (show ¬(P:Int)<0 by omega),zY (show ¬64<(P:Int) by omega),zY (show ¬(W:Int)<0 by omega),zY (show ¬16<(W:Int) by omega),Ko (by omega) _ (by decide)];obtain⟨o,⟨i1,K⟩,e⟩:=EI P (λn i l=>Ge N (P:Int) (W:Int) (Gf N q t (P:Int)) n i l) (Gf N q t (P:Int)) (λk (l:List (List Int))=>l.length=P∧∀i,i<k→l[i]? =some (List.replicate W 0)) (λn k l a=>by
  simp only[Ge];rw[Ql,E5 a];rfl) (λn k l m a=>by
  simp only[Ge];have w:k<l.length:=by rw[m.1];exact a
  rw[Ql,Ef a,zV,Ko (by omega) _ (by decide),BM w,zU,zU,BK (by omega)];refine⟨_,⟨by rw[MV];exact m.1,λi aa=>?_⟩,rfl⟩;by_cases z:k=i
  ·subst z;rw[GY w];rfl
  ·rw[IY z];exact m.2 i (by omega)) N 0 (List.replicate ((P:Int)).toNat ([]:List Int)) ⟨Ql _ _,λi m=>by omega⟩ (by omega) (Aad _)
 rw[show Ge N (P:Int) (W:Int) (Gf N q t (P:Int)) N 0 _=Gf N q t (P:Int) o from e];have M:o=List.replicate P (List.replicate W 0):=Abj λi=>by
  rcases Aar i P with h|h
  ·rw[K i h,Aco,Aab h]
  ·rw[Aa8 (by omega),Aa8 (by simp;omega)]
 have I:Ie P W o:=⟨i1,λx Q=>by rw[M] at Q;rw[(List.mem_replicate.1 Q).2];exact PX.zero W⟩
 unfold Gf;obtain⟨s,i3,e2⟩:=EI q.length (λn i (s:List AO×List (List Int))=>Fi N q t (P:Int) (H1 N) n s.1 i s.2) (λs=>H1 N s.1 s.2) (λk s=>zT P W t q k s) (λn k s a=>by
  simp only[Fi];rw[E5 a];rfl) (λn k s m a=>by
  obtain⟨F,o⟩:=s;obtain⟨A,d,G,U⟩:=m;simp only at A d G U;obtain⟨H,V,X⟩:=c _ (Aap a);have h2:=GZ c (k+1);rw[MK a] at h2;have ab:F.length≤k:=by rw[A];exact Abk (List.length_filter_le _ _) (by rw[Abl];omega)
  have ac:0≤GX F:=by
   rw[A];exact SW λl hl=>(c l (Aca ((Abp.1 hl).1))).1.sum0
  simp only[Fi,Jc];rw[Ef a,zV,BM a,zU,BK (by omega),Aaq V,Aaq X,Bool.and_true,Bool.and_true];by_cases u:(q[k]).Ao≤t
  ·obtain⟨j,J,B⟩:=lX (l:=o) V (by rw[d.len];exact X);obtain⟨y,hy,b,g⟩:=d.ix (k:=j) (by rw[←d.len];exact B);have ad:=d.le b;have C:=g.add H (by omega);rw[Aaq u,zV,J,hy,zU,zU,g.padd Y (by omega) H,zU,zU,zU];refine⟨(_,_),⟨by rw[S7 a,Aab u];exact A,d.upd _ C,λp v=>?_,?_⟩,rfl⟩
   ·show(upd o (j:Int) _)[p]? =_
    rw[Rq a];by_cases D:j=p
    ·subst D;rw[GY B,Aab ⟨u,J⟩];rw[G j v] at b;rw[zZ b]
    ·rw[IY D,zY (by rw[J];omega)];exact G p v
   ·show E4 (upd o (j:Int) _)+GX F=_
    rw[Qo b,JE (g.len.trans H.len.symm),MK a];omega
  ·rw[Aan u,zX,MQ N (by rw[H.len];omega),zU,JY (by simp;omega)];refine⟨(_,_),⟨by rw[S7 a,zY u,←A],d,λp v=>?_,?_⟩,rfl⟩
   ·rw[Rq a,zY λh=>u h.1];exact G p v
   ·show E4 o+GX (F++[_])=_
    rw[V4,MK a];simp only[GX,Aaz,List.map_nil,Aba,List.sum_nil] at U ⊢;omega) N 0 ([],o) ⟨rfl,I,λp v=>by
   show o[p]? =_
   rw[K p v];rfl,by
   show E4 o+GX []=GX (q.take 0)
   rw[M,V8];rfl⟩ (by omega) (Aad _)
 exact⟨s,e2,i3⟩
structure ArX (w:AL) (W:Nat) (r:List (List Int)×List AO×List AQ×List Int):Prop where
 own:Ie w.b.A.length W r.1
 at_:∀(p:Nat) x,w.s.E[p]? =some x→r.1[p]? =some (GA x (Q3 W w.s.C w.s.H p))
 rest:r.2.1=JG w.s.C w.s.H
 pk:r.2.2.2=r.1.map List.sum
 tot:E4 r.1+GX r.2.1=E4 w.s.E+GX w.s.H
def sB {N:Nat}(hN:1000000<N) {w:AL}{W:Nat}(hW:w.b.I.length=W) (aa:W≤16) (hP:w.b.A.length≤64) (hL:w.b.F.length≤96) (ab:∀l∈w.b.F,J1 w.b l) (ho:Ie w.b.A.length W w.s.E) (hq:w.s.H.length≤100000) (z:QX w.b.A.length W w.s.H) (ht:E4 w.s.E+GX w.s.H≤1125899906842624) (g:w.peaks.length=w.b.A.length) (hg:w.s.O.length=w.b.F.length):
  ∃r,El N w=some r∧ArX w W r∧r.2.2.1.length=w.b.F.length:=by
 have ah:=ho.sum0;have ac:=(GZ z 0).2;rw[Abv,show GX ([]:List AO)=0 from rfl] at ac;unfold El;rw[hW];obtain⟨⟨t,q⟩,hy,⟨y1,K,y3,y4⟩⟩:=pH hN hP aa hq z (by omega) w.s.C;simp only at y1 K y3 y4 hy;rw[Aa9] at y1 y3 y4;rw[hy,zU];have af:0≤GX t:=by
  rw[y1];exact SW λl hl=>(z l ((Abp.1 hl).1)).1.sum0
 have ag:=K.sum0;obtain⟨⟨o,y⟩,⟨m,M,Q,U,V,X⟩,e⟩:=EI w.b.A.length (λn i (s:List (List Int)×List Int)=>CZ N w (q,t) (Cm N w (q,t)) n i s.1 s.2) (λs=>Cm N w (q,t) s.1 s.2) (λk s=>Ie w.b.A.length W s.1∧s.2.length=w.b.A.length∧(∀(p:Nat) x,p<k→w.s.E[p]? =some x→s.1[p]? =some (GA x (Q3 W w.s.C w.s.H p)))∧(∀p,k≤p→s.1[p]? =w.s.E[p]?)∧(∀(p:Nat) x,p<k→s.1[p]? =some x→s.2[p]? =some x.sum)∧E4 s.1=E4 w.s.E+E4 (q.take k)) (λn k s d=>by
  simp only[CZ];rw[E5 d];rfl) (λn k s hi d=>by
  obtain⟨o,y⟩:=s;obtain⟨m,M,Q,U,V,X⟩:=hi;simp only at m M Q U V X;obtain⟨a,ha,u,B⟩:=m.ix d;obtain⟨c,hc,v,D⟩:=K.ix d;have J:k<q.length:=by rw[K.len];exact d
  have Y:q[k]=c:=by rw[Aao J] at v;exact zZ v
  have t1:=Nz K (k+1);rw[NZ J,Y] at t1;have t2:=m.le u;have hd:=B.add D (by omega);have Z:k<(upd o (k:Int) (GA a c)).length:=by rw[MV,m.len];exact d
  simp only[CZ];rw[Ef d,zV,BK (by omega),ha,zU,zU,hc,zU,zU,B.padd hN (by omega) D,zU,zU,zU];have ad:ix (upd o (k:Int) (GA a c)) (k:Int)=some (GA a c):=by
   rw[BM Z];have:=GY (l:=o) (k:=k) (by rw[m.len];exact d) (GA a c);rw[Aao Z] at this;exact this
  rw[ad,zU,zU,hd.total hN (by omega),zU,BM (show k<y.length by omega),zU,zU];refine⟨(_,_),⟨m.upd _ hd,by show(upd y _ _).length=_;rw[MV];exact M,λp x hp j=>?_,λp hp=>?_,λp x hp j=>?_,?_⟩,rfl⟩
  ·show(upd o (k:Int) _)[p]? =_
   by_cases g:k=p
   ·subst g;rw[GY (by rw[m.len];exact d)];rw[U k (Aal _),j] at u;cases u;rw[y3 k d] at v;rw[zZ v]
   ·rw[IY g];exact Q p x (by omega) j
  ·show(upd o (k:Int) _)[p]? =_
   rw[IY (by omega)];exact U p (by omega)
  ·change (upd o (k:Int) (GA a c))[p]? =some x at j;show(upd y (k:Int) _)[p]? =_
   by_cases g:k=p
   ·subst g;rw[GY (by rw[m.len];exact d)] at j;rw[GY (by omega),zZ j]
   ·rw[IY g] at j ⊢;exact V p x (by omega) j
  ·show E4 (upd o (k:Int) _)=_
   rw[Qo u,JE (B.len.trans D.len.symm),NZ J,Y,X];omega) N 0 (w.s.E,w.peaks) ⟨ho,g,λp x hp=>by omega,λp _=>rfl,λp x hp=>by omega,by simp [E4]⟩ (by omega) (Aad _)
 rw[show CZ N w (q,t) (Cm N w (q,t)) N 0 w.s.E w.peaks=Cm N w (q,t) o y from e];simp only at m M Q U V X;have ae:q.take w.b.A.length=q:=by rw[←K.len,Aa9]
 rw[ae] at X;unfold Cm;obtain⟨gs,j1,e2⟩:=EI w.b.F.length (λn i s=>CL N w (q,t) o y n i s) (λs=>some (o,t,s,y)) (λi s=>s.length=w.b.F.length) (λn k s d=>by
  simp only[CL];rw[E5 d];rfl) (λn i s hi d=>by
  simp only[CL,Eg];have ok:=ab _ (Aap d);rw[Ef d,zV,BM d,zU,BK (by omega)];cases decide ((w.b.F[i]).G=3)
  ·exact⟨s,hi,rfl⟩
  ·rw[zV,BM (show i<s.length by omega),zU,zU,oN ok.fr.1 (by rw[M];exact ok.fr.2),zU,zU,(vM N _ _ _).1,zU,zU,zU];exact⟨_,by rw[MV];exact hi,rfl⟩) N 0 w.s.O hg (by omega) (Aad _)
 refine⟨_,e2,⟨m,λp x j=>Q p x ?_ j,y1,?_,?_⟩,j1⟩
 ·rw[←ho.len];exact(Aai.1 j).1
 ·show y=o.map List.sum
  apply Abj;intro p;rcases Aar p w.b.A.length with h|h
  ·obtain⟨x,_,j,_⟩:=m.ix h;rw[V p x h j,Ab7,j];rfl
  ·rw[Aa8 (by omega),Aa8 (by rw[List.length_map,m.len];omega)]
 ·show E4 o+GX t=_
  omega
def Qn {N:Nat}(a:18446744073709551616<N) (v n d:Int):Df (Hn N v n d):=by
 unfold Hn;rw[Oo a,zU];exact Df.cond (λ_=>Df.mk _) λ_=>Df.mk _
def Vw {N:Nat}(a:18446744073709551616<N) (v n d:Int):Df (Kg N v n d):=by
 unfold Kg;rw[Oo a,zU];exact Df.cond (λ_=>Df.mk _) λ_=>Df.mk _
def wK {N:Nat}(a:18446744073709551616<N) (c:List BU) (x:Int):Df (Mj N c x):=by
 unfold Mj;obtain⟨v,b,k⟩:=Jg (N:=N) (by omega) c;rw[b,zU];cases v
 ·exact Df.mk _
 ·have g:=k rfl;obtain⟨y,d⟩:=Sh a g.1 g.2.1 x;exact⟨y.1,by rw[d];rfl⟩
def YJ {N:Nat}(i:18446744073709551616<N) (l:BL) (g:AQ) (fr to:Int):Df (LN N l g fr to):=by
 have head:Df (Ls N l fr to):=by
  unfold Ls;refine Df.cond (λ_=>Df.mk _) λ_=>?_;refine(Qn i _ _ _).bind λv _=>(So N _ _).bind λu _=>Df.mk _
 have j:Df (Lt N l g.V g.Am l.Aw fr to):=by
  unfold Lt Kv Kw Kx Ky Iq Ir;have n:Df ((GM N fr l.Bd).bind λm=>(Hn N (max 0 m) l.Y l.T).bind λk=>some k):=(So N _ _).bind λu _=>(Qn i _ _ _).bind λv _=>Df.mk _;refine Df.cond (λ_=>?_) λ_=>Df.cond (λ_=>(Qn i _ _ _).bind λv _=>Df.mk _) λ_=>Df.cond (λ_=>Df.cond (λ_=>(Qn i _ _ _).bind λv _=>Df.mk _) λ_=>Df.mk _) λ_=>Df.cond (λ_=>Df.cond (λ_=>Df.mk _) λ_=>n) λ_=>Df.cond (λ_=>n) λ_=>Df.mk _;exact head.bind λa _=>(wK i _ _).bind λb _=>(Qn i _ _ _).bind λc _=>(XS N _ _).bind λd _=>Df.mk _
 unfold LN;exact j.bind λv _=>Df.mk _
def Xr {N:Nat}(c:18446744073709551616<N) (l:BL) (fr to:Int):Df (LK N l fr to):=by
 unfold LK;exact Df.cond (λ_=>Df.mk _) λ_=>(Vw c _ _ _).bind λa _=>(Vw c _ _ _).bind λb _=>Df.mk _
def wM (W:Nat) (f:List Int→Option (List Int×List Int)):Prop:=∀x,x.length=W→∃r,f x=some r∧r.1.length=W∧r.2.length=W
def yZ (W:Nat) (l:List AD):Prop:=∀e∈l,wM W e.take
def yZ.snoc {W:Nat}{l:List AD}(c:yZ W l) {e:AD}(b:wM W e.take):yZ W (l++[e]):=λx a=>by
 rcases Aa0.1 a with a|a
 ·exact c x a
 ·rw[Abi.1 a];exact b
def UY {N:Nat}(i:1000000<N) (a b:List AD) (j:a.length≤100000) (k:b.length≤100000):CH N [a,b]=some (a++b):=by
 obtain⟨n,rfl⟩:∃n,N=n+3:=⟨N-3,by omega⟩
 have d:A9 ((a.length:Int)+(b.length:Int))=((a.length+b.length:Nat):Int):=by rw[C7 (by omega) (by omega)];rfl
 have g:A9 (0+(a.length:Int))=((a.length:Nat):Int):=by rw[C7 (by omega) (by omega)];omega
 have c:CO (n+3) ((a.length+b.length:Nat):Int)=some []:=by
  unfold CO CD;rw[Aan (show ¬((a.length+b.length:Nat):Int)<0 by omega),zX,C7 (n:=(0:Int)-0) (by decide) (by decide),C7 (n:=((a.length+b.length:Nat):Int)-(0-0)) (by omega) (by omega)];cases l:decide (0<((a.length+b.length:Nat):Int)-(0-0))
  ·rfl
  ·rw[zV,JY (by omega)];rfl
 unfold CH;simp only[Bv];rw[show decide ((0:Int)<(([a,b]:List (List AD)).length:Int))=true by simp,zV,show Go.Proofs.YtedgiljmffngoaaGreat.ix [a,b] 0=some a from rfl,zU,g,Aan (show ¬((a.length:Nat):Int)<0 by omega),zX,show A9 (0+1)=1 from rfl,show decide ((1:Int)<(([a,b]:List (List AD)).length:Int))=true by simp,zV,show Go.Proofs.YtedgiljmffngoaaGreat.ix [a,b] 1=some b from rfl,zU,d,Aan (show ¬((a.length+b.length:Nat):Int)<0 by omega),zX,show A9 (1+1)=2 from rfl,show decide ((2:Int)<(([a,b]:List (List AD)).length:Int))=false by simp,zX];unfold B8;rw[c,zU];simp only[Bu];rw[show decide ((0:Int)<(([a,b]:List (List AD)).length:Int))=true by simp,zV,show Go.Proofs.YtedgiljmffngoaaGreat.ix [a,b] 0=some a from rfl,zU,JY (by simp;omega),show A9 (0+1)=1 from rfl,show decide ((1:Int)<(([a,b]:List (List AD)).length:Int))=true by simp,zV,show Go.Proofs.YtedgiljmffngoaaGreat.ix [a,b] 1=some b from rfl,zU,JY (by simp;omega),show A9 (1+1)=2 from rfl,show decide ((2:Int)<(([a,b]:List (List AD)).length:Int))=false by simp,zX];rfl
def bW {N:Nat}(a:18446744073709551616<N) (b:Dw) (v m:Int):Df (Ib N b v m):=by
 unfold Ib G6;rw[Oo a,zU];exact Df.cond (λ_=>Df.mk _) λ_=>Df.cond (λ_=>Df.cond (λ_=>Df.mk _) λ_=>Df.mk _) λ_=>Df.cond (λ_=>Df.mk _) λ_=>Df.mk _
structure yY (P W:Nat) (o:List (List Int)) (out:List Int) (ms:List AI) (sn:List AO) (M:Nat):Prop where
 own:Zi P W o
 out:out.length=W
 mv:ms.length≤M
 sn:sn.length≤M
def yY.le {P W:Nat}{o:List (List Int)}{out:List Int}{ms:List AI}{a:List AO}{M b:Nat}(d:yY P W o out ms a M) (c:M≤b):yY P W o out ms a b:=⟨d.own,d.out,Abk d.mv c,Abk d.sn c⟩
def Pr (b:AE) (p:Nat) (a:Int):Int:=if 0≤a∧a<b.F.length then (YB b a.toNat).Q else if a= -3 then 0 else (b.A.getD p default).Q
structure tA (b:AE) (W p:Nat) (e:AD):Prop where
 tk:∀x,PX W x→∃t,e.take x=some (t,IE x t)∧Wk t x
 way:e.way≠ -4
 to:e.to_= -1∨(0≤e.to_∧e.to_<b.A.length)
 dl:e.delay=Pr b p e.way
structure wQ (b:AE) (H:Int) (W p:Nat) (m:AI):Prop where
 hour:m.C=H
 fr:m.D=(p:Int)
 way:m.Ap≠ -4
 to:m.B= -1∨(0≤m.B∧m.B<b.A.length)
 px:PX W m.K
 pos:0<m.K.sum
def Kl (b:AE) (H:Int) (m:AI):Option AO:=if m.B<0 then none else some ⟨A9 (A9 (H+1)+Pr b m.D.toNat m.Ap),m.B,m.K⟩
def RY (N:Nat) (out:List Int) (ms:List AI):List Int:=ms.foldl (λo m=>if m.B<0 then (Gg N o m.K).getD [] else o) out
def QA (o:List (List Int)) (ms:List AI):List (List Int):=ms.foldl (λo m=>upd o m.D (IE (o.getD m.D.toNat []) m.K)) o
def Q4:List AI→List (List Int)→Prop
 |[],_=>True
 |m::ms,o=>(∃x,o[m.D.toNat]? =some x∧Wk m.K x)∧Q4 ms (upd o m.D (IE (o.getD m.D.toNat []) m.K))
def KT (ms:List AI):Int:=(ms.map λm=>m.K.sum).sum
def Q4.app:∀{l1 a:List AI}{o:List (List Int)},Q4 l1 o→Q4 a (QA o l1)→Q4 (l1++a) o
 |[],_,_,_,d=>d
 |m::l1,a,o,b,c=>⟨b.1,Q4.app (l1:=l1) b.2 c⟩
structure VQ (b:AE) (H:Int) (N W p:Nat) (o:List (List Int)) (out:List Int) (ms:List AI) (sn:List AO) (o':List (List Int)) (out':List Int) (ms':List AI) (sn':List AO) (l:List AI):Prop where
 mv:∀m∈l,wQ b H W p m
 ms_:ms'=ms++l
 own:o'=QA o l
 out_:out'=RY N out l
 sn_:sn'=sn++l.filterMap (Kl b H)
 val:Q4 l o
 ox:Ie b.A.length W o'
 ol:out'.length=W
 tot:E4 o'+KT l=E4 o
def VQ.nil {b:AE}{H:Int}{N W p:Nat}{o:List (List Int)}{out:List Int}{ms:List AI}{a:List AO}(c:Ie b.A.length W o) (d:out.length=W):VQ b H N W p o out ms a o out ms a []:=
 ⟨λm g=>(by cases g),by simp,rfl,rfl,by simp,trivial,c,d,by simp [KT]⟩
def WD (a b:List AI):KT (a++b)=KT a+KT b:=by unfold KT;rw[Abt,Abq]
def VQ.trans {b:AE}{H:Int}{N W p:Nat}{o q i:List (List Int)}{out c a:List Int}{ms j d:List AI}{s n g:List AO}{l t:List AI}(v:VQ b H N W p o out ms s q c j n l) (k:VQ b H N W p q c j n i a d g t):VQ b H N W p o out ms s i a d g (l++t):=
 ⟨λm u=>(Aa0.1 u).elim (v.mv m) (k.mv m),by rw[k.ms_,v.ms_,Ac6],by rw[k.own,v.own];unfold QA;rw[Ada],by rw[k.out_,v.out_];unfold RY;rw[Ada],by rw[k.sn_,v.sn_,List.filterMap_append,Ac6],v.val.app (by rw[←v.own];exact k.val),k.ox,k.ol,by rw[WD];have:=v.tot;have:=k.tot;omega⟩
def iI {N:Nat}(w:1000000<N) (t:Int) {to:Int}(h0:0≤to) {p:List Int}(y:p.length≤1000) (l:∀x∈p,0≤x) (z:0<p.sum):Kt N t to p=some [⟨t,to,p⟩]:=by
 obtain⟨i,c,a⟩:∃(i:Nat) (A:i<p.length),0<p[i]:=by
  apply Ac8;intro d;have:p.sum≤p.length*0:=LI λx m=>by
   obtain⟨i,c,rfl⟩:=Adx.1 m;have:=d;apply Ac8;intro A;exact d ⟨i,c,by omega⟩
  omega
 have o:∃j:Int,0≤j∧En N p (λx=>H0 N x)=some j:=by
  unfold En;have:∀(n k:Nat),p.length<n+k→k≤i→∃j:Int,0≤j∧Cy N p (λx=>H0 N x) (D4 N) n (k:Int)=some j:=by
   intro n
   induction n with
   |zero=>intro k q s;omega
   |succ n u=>
    intro k q s;have g:k<p.length:=by omega
    simp only[Cy,H0];rw[Ef g,zV,BM g,BK (by omega),zU,zU];by_cases A:0<p[k]
    ·rw[Aaq A];exact⟨(k:Int),by omega,rfl⟩
    ·rw[Aan A,zX];have:k≠i:=λe=>by subst e;exact A a
     exact u (k+1) (by omega) (by omega)
  exact this N 0 (by omega) (Aad _)
 obtain⟨j,b,v⟩:=o;unfold Kt FX;rw[v,Aan (show ¬to<0 by omega),zX,zU,zU,Aaq b,Abo,zU,zX,MQ N (by omega),zU,JY (by simp)];rfl
def Vv {α}{l:List α}{k:Nat}{x:α}(a:l[k]? =some x):upd l (k:Int) x=l:=by
 apply Abj;intro i;by_cases e:k=i
 ·subst e;rw[GY (Aai.1 a).1,a]
 ·rw[IY e]
def Uz {N:Nat}(G:1000000<N) {w:AL}{b:AE}{H:Int}{W:Nat}(U:w.s.C=H) (V:W≤1000) (B:Ie b.A.length W w.s.E) {p:Nat}(X:p<b.A.length) {e:AD}(o:tA b W p e) (d:w.s.L.length=W) (D:w.moves.length≤1000000) (hs:w.sent.length≤1000000):
  ∃r l x t,E8 N w (p:Int) e=some r∧w.s.E[p]? =some x∧e.take x=some (t,IE x t)∧Wk t x∧r.1=upd w.s.E (p:Int) (IE x t)∧VQ b H N W p w.s.E w.s.L w.moves w.sent r.1 r.2.1 r.2.2.1 r.2.2.2 l∧l=if t.sum≤0 then [] else [⟨H,(p:Int),e.to_,e.way,t⟩]:=by
 obtain⟨x,Y,c,n⟩:=B.ix X;obtain⟨t,F,u⟩:=o.tk x n;obtain⟨M,Z,i⟩:=u.sub n;have I:w.s.E.getD p []=x:=by simp [Aa5,c]
 have v:E4 (upd w.s.E (p:Int) (IE x t))=E4 w.s.E-t.sum:=by rw[Qo c,Z];omega
 unfold E8;rw[Y,zU,zU,F,zU,zU,zU,i.total G V,zU];by_cases h0:t.sum≤0
 ·rw[Aaq h0,zV];have hz:IE x t=x:=Y5 n.len i.len (Vd i.nn h0);refine⟨_,[],x,t,rfl,c,F,u,rfl,?_,by rw[Aab h0]⟩;show VQ b H N W p w.s.E w.s.L w.moves w.sent (upd w.s.E (p:Int) (IE x t)) w.s.L w.moves w.sent []
  rw[hz,Vv c];exact VQ.nil B d
 ·have y:wQ b H W p ⟨H,(p:Int),e.to_,e.way,t⟩:=⟨rfl,rfl,o.way,o.to,i,by show 0<t.sum;omega⟩
  have j:Q4 [(⟨H,(p:Int),e.to_,e.way,t⟩:AI)] w.s.E:=⟨⟨x,by show w.s.E[((p:Int)).toNat]? =_;rw[Abh];exact c,u⟩,trivial⟩
  have k:upd w.s.E (p:Int) (IE x t)=QA w.s.E [(⟨H,(p:Int),e.to_,e.way,t⟩:AI)]:=by
   show _=upd w.s.E (p:Int) (IE (w.s.E.getD ((p:Int)).toNat []) t)
   rw[Abh,I]
  rw[Aan h0,zX,JY (by simp;omega),U];by_cases g:e.to_= -1
  ·obtain⟨a,Q,J⟩:=cD G (p:=w.s.L) (q:=t) (by omega) (by rw[i.len];omega);rw[Aaq g,zV,Q,zU];refine⟨_,[⟨H,(p:Int),e.to_,e.way,t⟩],x,t,rfl,c,F,u,rfl,⟨λm D=>by rw[Abi.1 D];exact y,rfl,k,?_,?_,j,B.upd _ M,?_,?_⟩,by rw[zY h0]⟩
   ·show a=if e.to_<0 then (Gg N w.s.L t).getD [] else _
    rw[Aab (by omega),Q];rfl
   ·show w.sent=w.sent++_
    rw[show ([(⟨H,(p:Int),e.to_,e.way,t⟩:AI)].filterMap (Kl b H))=[] by simp [Kl,g],Aa3]
   ·show a.length=W
    rw[J,d,i.len,Nat.max_self]
   ·show E4 (upd _ _ _)+KT _=_
    rw[v];simp [KT]
  ·have z:=o.to.resolve_left g;rw[Aan g,zX,iI G _ z.1 (by rw[i.len];omega) i.nn (by omega),zU,JY (by simp;omega)];refine⟨_,[⟨H,(p:Int),e.to_,e.way,t⟩],x,t,rfl,c,F,u,rfl,⟨λm D=>by rw[Abi.1 D];exact y,rfl,k,?_,?_,j,B.upd _ M,d,?_⟩,by rw[zY h0]⟩
   ·show w.s.L=if e.to_<0 then _ else w.s.L
    rw[zY (by omega)]
   ·show w.sent++_=w.sent++_
    congr 1;have K:¬e.to_<0:=by omega
    simp only[Adn,List.filterMap_nil,Kl,zY K,Abh];rw[o.dl]
   ·show E4 (upd _ _ _)+KT _=_
    rw[v];simp [KT]
def Qe {N W:Nat}(a:18446744073709551616<N) (b:W≤64) (n:Int):∀x,PX W x→∃t,AM N n x=some (t,IE x t)∧Wk t x∧t.sum=max 0 (min n x.sum):=λx c=>by
 obtain⟨t,e,d,g⟩:=gV a b c n;unfold AM;rw[e,zU];exact⟨t,rfl,d,g⟩
def iW {N W:Nat}(a:1000000<N) (d:W≤64) (t:HV):∀x,PX W x→∃y,DN N t x=some (y,IE x y)∧Wk y x:=λx b=>by
 obtain⟨y,e,c,_⟩:=iX a (by omega) b t.Bg t.Bb;unfold DN;rw[e,zU];exact⟨y,rfl,c⟩
def XL (b:AE) (W p:Nat) (l:List AD):Prop:=∀e∈l,tA b W p e
def XL.snoc {b:AE}{W p:Nat}{l:List AD}(d:XL b W p l) {e:AD}(c:tA b W p e):XL b W p (l++[e]):=λx a=>by
 rcases Aa0.1 a with a|a
 ·exact d x a
 ·rw[Abi.1 a];exact c
end Go.Proofs.YtedgiljmffngoaaGreat
