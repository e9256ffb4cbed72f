import Derived.Test.YtblcgjadhemlbaaGreatWPureEy
import Derived.Test.YtblcgjadhemlbaaGreatWPureCurve
import Derived.Test.YtblcgjadhemlbaaGreatWPureAsk
namespace Go.Proofs.YtblcgjadhemlbaaGreat
set_option linter.all false
open Go.RowKit
structure Ir (P W:Nat) (o:List (List Int)):Prop where
 len:o.length=P
 all:∀x∈o,PX W x
def E8 (o:List (List Int)):Int:=(o.map List.sum).sum
def HG (q:List BD):Int:=(q.map λl=>l.Ag.sum).sum
def Ir.ix {P W:Nat}{o:List (List Int)}(c:Ir P W o) {k:Nat}(a:k<P):∃x,Go.Proofs.YtblcgjadhemlbaaGreat.ix o (k:Int)=some x∧o[k]? =some x∧PX W x:=by
 obtain⟨x,e,b⟩:=qC (l:=o) (i:=k) (by rw[c.len];exact a)
 exact⟨x,e,by rw[BR (by rw[c.len];exact a)] at e;rw[rC (by rw[c.len];exact a)];exact e,c.all x b⟩
def Ir.upd {P W:Nat}{o:List (List Int)}(c:Ir P W o) (i:Int) {x:List Int}(b:PX W x):Ir P W (upd o i x):=
 ⟨by rw[LH];exact c.len,λy a=>by
  rcases uV a with a|rfl
  ·exact c.all y a
  ·exact b⟩
def Ir.nn {P W:Nat}{o:List (List Int)}(c:Ir P W o):∀x∈o.map List.sum,0≤x:=λx a=>by
 obtain⟨y,b,rfl⟩:=rX.1 a
 exact(c.all y b).sum0
def NI {o:List (List Int)}{k:Nat}{x y:List Int}(a:o[k]? =some x):E8 (upd o (k:Int) y)=E8 o-x.sum+y.sum:=by
 have b:=(rB.1 a).1
 have c:=(rB.1 a).2
 unfold E8 upd
 rw[sF,List.map_set,Nd (by simpa using b),List.getElem_map,c]
def Ir.le {P W:Nat}{o:List (List Int)}(b:Ir P W o) {k:Nat}{x:List Int}(a:o[k]? =some x):x.sum≤E8 o:=IW b.nn _ (rX.2 ⟨x,sC a,rfl⟩)
def Ir.sum0 {P W:Nat}{o:List (List Int)}(a:Ir P W o):0≤E8 o:=J5 a.nn
def LR {o:List (List Int)}{k:Nat}(a:k<o.length):E8 (o.take (k+1))=E8 (o.take k)+(o[k]).sum:=LS a
def Kd {q:List BD}{k:Nat}(a:k<q.length):HG (q.take (k+1))=HG (q.take k)+(q[k]).Ag.sum:=LS (f:=λl:BD=>l.Ag.sum) a
def LM {P W:Nat}{o:List (List Int)}(a:Ir P W o) (k:Nat):0≤E8 (o.take k)∧E8 (o.take k)≤E8 o:=by
 have:=IP a.nn k
 rw[←List.map_take] at this
 exact this
def QX (P W:Nat) (q:List BD):Prop:=∀l∈q,PX W l.Ag∧0≤l.C∧l.C<P
def QX.nn {P W:Nat}{q:List BD}(c:QX P W q):∀x∈q.map (λl=>l.Ag.sum),0≤x:=λx a=>by
 obtain⟨y,b,rfl⟩:=rX.1 a
 exact(c y b).1.sum0
def Hm {P W:Nat}{q:List BD}(a:QX P W q) (k:Nat):0≤HG (q.take k)∧HG (q.take k)≤HG q:=by
 have:=IP a.nn k
 rw[←List.map_take] at this
 exact this
def v1 (W:Nat) (n:Int):List Int:=upd (List.replicate W 0) 0 n
def OF (W:Nat) (n:Int):(v1 W n).length=W:=by unfold v1;rw[LH];simp
def PH {W:Nat}(a:1≤W) (n:Int):(v1 W n).sum=n:=by
 unfold v1 upd
 rw[show (0:Int).toNat=0 from rfl,Nd (by simp;omega)]
 simp
def cM {W:Nat}(c:1≤W) {n:Int}(h0:0≤n) (b:n≤1125899906842624):PX W (v1 W n):=
 ⟨OF W n,λx a=>by
  rcases uV a with a|rfl
  ·rw[(List.mem_replicate.1 a).2];exact rN 0
  ·exact h0,by rw[PH c];exact b⟩
def Vp (W:Nat):v1 W 0=List.replicate W 0:=by
 unfold v1 upd
 apply sK
 intro i
 by_cases a:0=i
 ·subst a
  rcases vF W with a|a
  ·subst a;rfl
  ·rw[show (0:Int).toNat=0 from rfl,tV (by simp;omega),tU,qR a]
 ·rw[show (0:Int).toNat=0 from rfl,tM a]
def Rk {W:Nat}{p:List Int}(b:p.length=W):Fw p (List.replicate W 0)=p:=by
 apply sK
 intro i
 rw[Fw,tT,tU]
 rcases rL i W with a|a
 ·rw[qR a,rC (by omega)];simp
 ·rw[qP (by omega),rU (show p.length≤i by omega)]
def QZ:∀(p q r:List Int),Fw (Fw p q) r=Fw p (Fw q r)
 |[],_,_=>by simp [Fw]
 |_::_,[],_=>by simp [Fw]
 |_::_,_::_,[]=>by simp [Fw]
 |a::p,b::q,c::r=>by
  have:=QZ p q r
  simp only[Fw,List.zipWith_cons_cons] at this ⊢
  rw[this,Int.add_assoc]
def Vo {W:Nat}{p:List Int}(g:p.length=W) (d:1≤W) (n x:Int) (c:ix p 0=some x):upd p 0 (x+n)=Fw p (v1 W n):=by
 have b:p[0]? =some x:=(D0 c).2
 apply sK
 intro i
 unfold v1 upd
 rw[Fw,tT,show(0:Int).toNat=0 from rfl]
 by_cases a:0=i
 ·subst a
  rw[tV (by omega),tV (by simp;omega),b]
 ·rw[tM a,tM a,tU]
  rcases rL i W with a|a
  ·rw[qR a,rC (show i<p.length by omega)];simp
  ·rw[qP (by omega),rU (show p.length≤i by omega)]
def eQ {W:Nat}(g:1≤W) (a b:Int):Fw (v1 W a) (v1 W b)=v1 W (a+b):=by
 apply sK
 intro i
 rw[Fw,tT]
 unfold v1 upd
 rw[show (0:Int).toNat=0 from rfl]
 by_cases c:0=i
 ·subst c
  rw[tV (by simp;omega),tV (by simp;omega),tV (by simp;omega)]
 ·rw[tM c,tM c,tM c,tU]
  by_cases d:i<W<;>simp [d]
def Xh (H:Int) (W:Nat):Nat→List Int→List BB
 |_,[]=>[]
 |i,n::l=>(if 0<n then [⟨H, -1,(i:Int), -4,v1 W n⟩] else [])++Xh H W (i+1) l
def Ql (H:Int) (W:Nat) (n:Int):∀(l:List Int) (i:Nat),Xh H W i (l++[n])=Xh H W i l++(if 0<n then [⟨H, -1,((i+l.length:Nat):Int), -4,v1 W n⟩] else [])
 |[],i=>by simp [Xh]
 |a::l,i=>by
  have e:i+(a::l).length=i+1+l.length:=by simp;omega
  rw[rW,Xh,Ql H W n l (i+1),Xh,e,uR]
def Sf (H:Int) (W:Nat):∀(l:List Int) (i:Nat),(Xh H W i l).length≤l.length
 |[],_=>by simp [Xh]
 |a::l,i=>by
  have:=Sf H W l (i+1)
  rw[Xh,sA]
  split<;>simp<;>omega
structure pQ (w:AX) (W k:Nat) (l:List Int) (s:Int×Int×List BB×List (List Int)×List Int):Prop where
 ll:l.length=k
 l0:∀n∈l,0≤n
 ms:s.2.2.1=Xh w.s.D W 0 l
 own:Ir w.b.A.length W s.2.2.2.1
 lo:∀(i:Nat) x n,w.s.F[i]? =some x→l[i]? =some n→s.2.2.2.1[i]? =some (Fw x (v1 W n))
 hi:∀i,k≤i→s.2.2.2.1[i]? =w.s.F[i]?
 th:s.1=E8 s.2.2.2.1+HG w.s.M∧s.1≤1125899906842624
 inn:s.2.2.2.2=Fw w.s.S (v1 W l.sum)
 en:s.2.1=w.s.S.sum+l.sum∧s.2.1≤1152921504606846976
 os:E8 s.2.2.2.1=E8 w.s.F+l.sum
end Go.Proofs.YtblcgjadhemlbaaGreat
namespace Go.Proofs.YtblcgjadhemlbaaGreat
set_option linter.all false
open Go.RowKit
def O6 (W:Nat) (t:Int) (q:List BD) (p:Nat):List Int:=(q.filter λl=>decide (l.Ak≤t)&&decide (l.C=(p:Int))).foldl (λa l=>Fw a l.Ag) (List.replicate W 0)
def NC (t:Int) (q:List BD):List BD:=q.filter λl=>decide (t<l.Ak)
def PT {W:Nat}{t:Int}{q:List BD}{p k:Nat}(d:k<q.length):O6 W t (q.take (k+1)) p=if (q[k]).Ak≤t∧(q[k]).C=(p:Int) then Fw (O6 W t (q.take k) p) (q[k]).Ag else O6 W t (q.take k) p:=by
 unfold O6
 rw[tG d,uN,uM]
 by_cases a:(q[k]).Ak≤t∧(q[k]).C=(p:Int)
 ·rw[qR a];simp [a.1,a.2]
 ·rw[qP a]
  have:(decide ((q[k]).Ak≤t)&&decide ((q[k]).C=(p:Int)))=false:=by
   rw[Bool.and_eq_false_iff]
   simp only[rO]
   by_cases b:(q[k]).Ak≤t
   ·exact .inr λc=>a ⟨b,c⟩
   ·exact .inl b
  simp [this]
def Qn {t:Int}{q:List BD}{k:Nat}(b:k<q.length):NC t (q.take (k+1))=if (q[k]).Ak≤t then NC t (q.take k) else NC t (q.take k)++[q[k]]:=by
 unfold NC
 rw[tG b,uN]
 by_cases a:(q[k]).Ak≤t
 ·rw[qR a];simp;omega
 ·rw[qP a]
  have:t<(q[k]).Ak:=by omega
  simp [this]
def YX (a b:List BD):HG (a++b)=HG a+HG b:=by unfold HG;rw[tS,sT]
structure qM (P W:Nat) (t:Int) (q:List BD) (k:Nat) (s:List BD×List (List Int)):Prop where
 rest:s.1=NC t (q.take k)
 own:Ir P W s.2
 at_:∀p,p<P→s.2[p]? =some (O6 W t (q.take k) p)
 tot:E8 s.2+HG s.1=HG (q.take k)
def UF (W:Nat):∀P:Nat,E8 (List.replicate P (List.replicate W 0))=0
 |0=>rfl
 |P+1=>by
  have:=UF W P
  unfold E8 at this ⊢
  rw[List.replicate_succ,sM,sU,this,V4];rfl
def fZ {N:Nat}(Y:1000000<N) {P W:Nat}(hP:P≤64) (hW:W≤16) {q:List BD}(hq:q.length≤1000) (c:QX P W q) (Z:HG q≤1125899906842624) (t:Int):
  ∃s,Kx N q t (P:Int) (W:Int)=some (s.2,s.1)∧qM P W t q q.length s:=by
 unfold Kx
 rw[NO,qN,NO,qN,qP (show ¬(P:Int)<0 by omega),qP (show ¬64<(P:Int) by omega),qP (show ¬(W:Int)<0 by omega),qP (show ¬16<(W:Int) by omega),Jj (by omega) _ (by decide)]
 obtain⟨o,⟨i1,K⟩,e⟩:=Ee P (λn i l=>Gk N (P:Int) (W:Int) (Gl N q t (P:Int)) n i l) (Gl N q t (P:Int)) (λk (l:List (List Int))=>l.length=P∧∀i,i<k→l[i]? =some (List.replicate W 0)) (λn k l a=>by
  simp only[Gk];rw[Og,E4 a];rfl) (λn k l m a=>by
  simp only[Gk]
  have w:k<l.length:=by rw[m.1];exact a
  rw[Og,En a,qO,Jj (by omega) _ (by decide),BR w,qN,qN,BT (by omega)]
  refine⟨_,⟨by rw[LH];exact m.1,λi aa=>?_⟩,rfl⟩
  by_cases z:k=i
  ·subst z;rw[F5 w];rfl
  ·rw[Hb z];exact m.2 i (by omega)) N 0 (List.replicate ((P:Int)).toNat ([]:List Int)) ⟨Og _ _,λi m=>by omega⟩ (by omega) (qW _)
 rw[show Gk N (P:Int) (W:Int) (Gl N q t (P:Int)) N 0 _=Gl N q t (P:Int) o from e]
 have M:o=List.replicate P (List.replicate W 0):=sK λi=>by
  rcases rL i P with h|h
  ·rw[K i h,tU,qR h]
  ·rw[rU (by omega),rU (by simp;omega)]
 have I:Ir P W o:=⟨i1,λx Q=>by rw[M] at Q;rw[(List.mem_replicate.1 Q).2];exact PX.zero W⟩
 unfold Gl
 obtain⟨s,i3,e2⟩:=Ee q.length (λn i (s:List BD×List (List Int))=>F8 N q t (P:Int) (H4 N) n s.1 i s.2) (λs=>H4 N s.1 s.2) (λk s=>qM P W t q k s) (λn k s a=>by
  simp only[F8];rw[E4 a];rfl) (λn k s m a=>by
  obtain⟨F,o⟩:=s
  obtain⟨A,d,G,U⟩:=m
  simp only at A d G U
  obtain⟨H,V,X⟩:=c _ (rH a)
  have h2:=Hm c (k+1)
  rw[Kd a] at h2
  have ab:F.length≤k:=by rw[A];exact sP (List.length_filter_le _ _) (by rw[sV];omega)
  have ac:0≤HG F:=by
   rw[A]
   exact Ni λl hl=>(c l (vG ((sS.1 hl).1))).1.sum0
  simp only[F8,JO]
  rw[En a,qO,BR a,qN,BT (by omega),rF V,rF X,Bool.and_true,Bool.and_true]
  by_cases u:(q[k]).Ak≤t
  ·obtain⟨j,J,B⟩:=dG (l:=o) V (by rw[d.len];exact X)
   obtain⟨y,hy,b,g⟩:=d.ix (k:=j) (by rw[←d.len];exact B)
   have ad:=d.le b
   have C:=g.add H (by omega)
   rw[rF u,qO,J,hy,qN,qN,g.padd Y (by omega) H,qN,qN,qN]
   refine⟨(_,_),⟨by rw[Qn a,qR u];exact A,d.upd _ C,λp v=>?_,?_⟩,rfl⟩
   ·show(upd o (j:Int) _)[p]? =_
    rw[PT a]
    by_cases D:j=p
    ·subst D
     rw[F5 B,qR ⟨u,J⟩]
     rw[G j v] at b
     rw[qS b]
    ·rw[Hb D,qP (by rw[J];omega)];exact G p v
   ·show E8 (upd o (j:Int) _)+HG F=_
    rw[NI b,I1 (g.len.trans H.len.symm),Kd a]
    omega
  ·rw[rD u,qQ,LT N (by rw[H.len];omega),qN,KI (by simp;omega)]
   refine⟨(_,_),⟨by rw[Qn a,qP u,←A],d,λp v=>?_,?_⟩,rfl⟩
   ·rw[PT a,qP λh=>u h.1];exact G p v
   ·show E8 o+HG (F++[_])=_
    rw[YX,Kd a]
    simp only[HG,sM,List.map_nil,sU,List.sum_nil] at U ⊢
    omega) N 0 ([],o) ⟨rfl,I,λp v=>by
   show o[p]? =_
   rw[K p v];rfl,by
   show E8 o+HG []=HG (q.take 0)
   rw[M,UF];rfl⟩ (by omega) (qW _)
 exact⟨s,e2,i3⟩
structure ArX (w:AX) (W:Nat) (r:List (List Int)×List BD×List BG×List Int):Prop where
 own:Ir w.b.A.length W r.1
 at_:∀(p:Nat) x,w.s.F[p]? =some x→r.1[p]? =some (Fw x (O6 W w.s.D w.s.M p))
 rest:r.2.1=NC w.s.D w.s.M
 pk:r.2.2.2=r.1.map List.sum
 tot:E8 r.1+HG r.2.1=E8 w.s.F+HG w.s.M
def gV {N:Nat}(hN:1000000<N) {w:AX}{W:Nat}(hW:w.b.J.length=W) (aa:W≤16) (hP:w.b.A.length≤64) (hL:w.b.E.length≤96) (ab:∀l∈w.b.E,IA w.b l) (ho:Ir w.b.A.length W w.s.F) (hq:w.s.M.length≤1000) (z:QX w.b.A.length W w.s.M) (ht:E8 w.s.F+HG w.s.M≤1125899906842624) (g:w.peaks.length=w.b.A.length) (hg:w.s.P.length=w.b.E.length):
  ∃r,DR N w=some r∧ArX w W r∧r.2.2.1.length=w.b.E.length:=by
 have ah:=ho.sum0
 have ac:=(Hm z 0).2
 rw[tE,show HG ([]:List BD)=0 from rfl] at ac
 unfold DR
 rw[hW]
 obtain⟨⟨t,q⟩,hy,⟨y1,I,y3,y4⟩⟩:=fZ hN hP aa hq z (by omega) w.s.D
 simp only at y1 I y3 y4 hy
 rw[rY] at y1 y3 y4
 rw[hy,qN]
 have af:0≤HG t:=by
  rw[y1]
  exact Ni λl hl=>(z l ((sS.1 hl).1)).1.sum0
 have ag:=I.sum0
 obtain⟨⟨o,y⟩,⟨m,K,Q,U,V,X⟩,e⟩:=Ee w.b.A.length (λn i (s:List (List Int)×List Int)=>CZ N w (q,t) (C7 N w (q,t)) n i s.1 s.2) (λs=>C7 N w (q,t) s.1 s.2) (λk s=>Ir w.b.A.length W s.1∧s.2.length=w.b.A.length∧(∀(p:Nat) x,p<k→w.s.F[p]? =some x→s.1[p]? =some (Fw x (O6 W w.s.D w.s.M p)))∧(∀p,k≤p→s.1[p]? =w.s.F[p]?)∧(∀(p:Nat) x,p<k→s.1[p]? =some x→s.2[p]? =some x.sum)∧E8 s.1=E8 w.s.F+E8 (q.take k)) (λn k s d=>by
  simp only[CZ];rw[E4 d];rfl) (λn k s hi d=>by
  obtain⟨o,y⟩:=s
  obtain⟨m,K,Q,U,V,X⟩:=hi
  simp only at m K Q U V X
  obtain⟨a,ha,u,C⟩:=m.ix d
  obtain⟨c,hc,v,G⟩:=I.ix d
  have H:k<q.length:=by rw[I.len];exact d
  have Y:q[k]=c:=by rw[rC H] at v;exact qS v
  have t1:=LM I (k+1)
  rw[LR H,Y] at t1
  have t2:=m.le u
  have hd:=C.add G (by omega)
  have Z:k<(upd o (k:Int) (Fw a c)).length:=by rw[LH,m.len];exact d
  simp only[CZ]
  rw[En d,qO,BT (by omega),ha,qN,qN,hc,qN,qN,C.padd hN (by omega) G,qN,qN,qN]
  have ad:ix (upd o (k:Int) (Fw a c)) (k:Int)=some (Fw a c):=by
   rw[BR Z]
   have:=F5 (l:=o) (k:=k) (by rw[m.len];exact d) (Fw a c)
   rw[rC Z] at this
   exact this
  rw[ad,qN,qN,hd.total hN (by omega),qN,BR (show k<y.length by omega),qN,qN]
  refine⟨(_,_),⟨m.upd _ hd,by show(upd y _ _).length=_;rw[LH];exact K,λp x hp j=>?_,λp hp=>?_,λp x hp j=>?_,?_⟩,rfl⟩
  ·show(upd o (k:Int) _)[p]? =_
   by_cases g:k=p
   ·subst g
    rw[F5 (by rw[m.len];exact d)]
    rw[U k (qX _),j] at u
    cases u
    rw[y3 k d] at v
    rw[qS v]
   ·rw[Hb g];exact Q p x (by omega) j
  ·show(upd o (k:Int) _)[p]? =_
   rw[Hb (by omega)];exact U p (by omega)
  ·change (upd o (k:Int) (Fw a c))[p]? =some x at j
   show(upd y (k:Int) _)[p]? =_
   by_cases g:k=p
   ·subst g
    rw[F5 (by rw[m.len];exact d)] at j
    rw[F5 (by omega),qS j]
   ·rw[Hb g] at j ⊢;exact V p x (by omega) j
  ·show E8 (upd o (k:Int) _)=_
   rw[NI u,I1 (C.len.trans G.len.symm),LR H,Y,X]
   omega) N 0 (w.s.F,w.peaks) ⟨ho,g,λp x hp=>by omega,λp _=>rfl,λp x hp=>by omega,by simp [E8]⟩ (by omega) (qW _)
 rw[show CZ N w (q,t) (C7 N w (q,t)) N 0 w.s.F w.peaks=C7 N w (q,t) o y from e]
 simp only at m K Q U V X
 have ae:q.take w.b.A.length=q:=by rw[←I.len,rY]
 rw[ae] at X
 unfold C7
 obtain⟨gs,j1,e2⟩:=Ee w.b.E.length (λn i s=>B3 N w (q,t) o y n i s) (λs=>some (o,t,s,y)) (λi s=>s.length=w.b.E.length) (λn k s d=>by
  simp only[B3];rw[E4 d];rfl) (λn i s hi d=>by
  simp only[B3,Du]
  have ok:=ab _ (rH d)
  rw[En d,qO,BR d,qN,BT (by omega)]
  cases decide ((w.b.E[i]).B=3)
  ·exact⟨s,hi,rfl⟩
  ·rw[qO,BR (show i<s.length by omega),qN,qN,VG ok.fr.1 (by rw[K];exact ok.fr.2),qN,qN,(lJ N _ _ _).1,qN,qN,qN]
   exact⟨_,by rw[LH];exact hi,rfl⟩) N 0 w.s.P hg (by omega) (qW _)
 refine⟨_,e2,⟨m,λp x j=>Q p x ?_ j,y1,?_,?_⟩,j1⟩
 ·rw[←ho.len];exact(rB.1 j).1
 ·show y=o.map List.sum
  apply sK
  intro p
  rcases rL p w.b.A.length with h|h
  ·obtain⟨x,_,j,_⟩:=m.ix h
   rw[V p x h j,sQ,j];rfl
  ·rw[rU (by omega),rU (by rw[uB,m.len];omega)]
 ·show E8 o+HG t=_
  omega
end Go.Proofs.YtblcgjadhemlbaaGreat
