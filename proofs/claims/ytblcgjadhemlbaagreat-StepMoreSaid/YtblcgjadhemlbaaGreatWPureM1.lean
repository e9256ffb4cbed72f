import Derived.Test.YtblcgjadhemlbaaGreatWPureC2
import Derived.Test.YtblcgjadhemlbaaGreatWPureR3
import Derived.Test.YtblcgjadhemlbaaGreatWPureAsk
namespace Go.Proofs.YtblcgjadhemlbaaGreat
set_option linter.all false
open Go.RowKit
def Wc (N:Nat) (b:AU) (c:List BG) (a:List Int) (p k:Nat):Int:=
 if (Lc b k).G=(p:Int)∧(Lc b k).B≠4 then (Iw N (Lc b k) (c.getD k default) (KX a p) (if (Lc b k).C= -1 then 0 else KX a (Lc b k).C)).getD 0
 else if (Lc b k).G=(p:Int) then (IX N (Lc b k) (KX a p) (KX a (Lc b k).C)).getD 0
 else if (Lc b k).C=(p:Int)∧(Lc b k).B=4 then 0-(IX N (Lc b k) (KX a (Lc b k).G) (KX a p)).getD 0
 else 0
def Uc (N:Nat) (b:AU) (a:List BG) (c:List Int) (p n:Nat):Int:=sm (λk=>max 0 (Wc N b a c p k)) n
def NH {a:List Int}{i v:Int}(b:ix a i=some v):KX a i=v:=by
 have:=(D0 b).2
 unfold KX
 rw[rR,this];rfl
def Yu {a:List BG}{k:Nat}{g:BG}(b:ix a (k:Int)=some g):a.getD k default=g:=by
 have:=(D0 b).2
 rw[sF] at this
 rw[rR,this];rfl
def M9 {N:Nat}(a:18446744073709551616<N) {l:BL}(b:l.B=4) (f t:Int):IX N l f t=some (pt f l.L l.I-pt t l.Ac l.Aa):=by
 have c:=Pg f l.L l.I
 have d:=Pg t l.Ac l.Aa
 unfold IX
 rw[show decide (l.B≠4)=false by simp [b],qQ,Tz a,qN,Tz a,qN,Cx (by omega) (by omega)]
def iZ (N:Nat) (a:Int):List Int→Option (List Int×List Int):=λx=>A3 N a x
structure jC (N:Nat) (w:AX) (p k:Nat) (l:List AK) (al:List Int):Prop where
 len:l.length≤k
 map_:l.map (λe=>e.take)=al.map (iZ N)
 sum:(al.map λa=>max 0 a).sum=Uc N w.b w.s.P w.peaks p k
def WR {N:Nat}(U:18446744073709551616<N) {w:AX}{p:Nat}(W:w.b.E.length≤1000):∀(n k:Nat) {l A:List AK}{al:List Int},k≤w.b.E.length→jC N w p k l al→CB N w (p:Int) (DJ N) n l (k:Int)=some A→∃j,jC N w p w.b.E.length A j
 |0,_,_,_,_,_,_,e=>by cases e
 |n+1,k,l,A,al,Z,h,e=>by
  simp only[CB,GS,Dg,FM,qN] at e
  rcases rL k w.b.E.length with y|y
  ·rw[En y,qO,BR y,qN,BT (by omega)] at e
   have H:=NJ (b:=w.b) y
   have next:∀{V j},jC N w p (k+1) V j→CB N w (p:Int) (DJ N) n V ((k+1:Nat):Int)=some A→∃j,jC N w p w.b.E.length A j:=λh e=>WR U W n (k+1) y h e
   have d:∀{J:AK} {a:Int},J.take=iZ N a→Wc N w.b w.s.P w.peaks p k=a→jC N w p (k+1) (l++[J]) (al++[a]):=λ{J a} D K=>by
    refine⟨by rw[sA,List.length_singleton];have:=h.len;omega,?_,?_⟩
    ·rw[tS,tS,h.map_,List.map_singleton,List.map_singleton,D]
    ·rw[tS,sT,h.sum,List.map_singleton,List.sum_singleton]
     show _=Uc N w.b w.s.P w.peaks p k+max 0 (Wc N w.b w.s.P w.peaks p k)
     rw[K]
   unfold Wc at d
   have i:Wc N w.b w.s.P w.peaks p k=0→jC N w p (k+1) l al:=λh0=>by
    refine⟨by have:=h.len;omega,h.map_,?_⟩
    show _=Uc N w.b w.s.P w.peaks p k+max 0 (Wc N w.b w.s.P w.peaks p k)
    rw[h0,h.sum];omega
   unfold Wc at i
   rw[H] at d i
   generalize w.b.E[k]=x at e d i
   by_cases z:x.G=(p:Int)
   ·rw[rF z,Bool.true_and] at e
    by_cases F:x.B=4
    ·rw[show decide (x.B≠4)=false by simp [F],qQ,qO] at e
     rw[qP (by rw[not_and];exact λ_ h=>h F),qR z] at d
     obtain⟨_,_,e⟩:=bd e
     obtain⟨v,u,e⟩:=bd e
     obtain⟨_,_,e⟩:=bd e
     obtain⟨t,M,e⟩:=bd e
     obtain⟨a,o,e⟩:=bd e
     obtain⟨_,e⟩:=LO e
     rw[NH u,NH M,o] at d
     exact next (d (by rfl) rfl) e
    ·rw[show decide (x.B≠4)=true by simp [F],qO] at e
     rw[qR ⟨z,F⟩] at d
     by_cases m:x.C= -1
     ·rw[show decide (x.C≠ -1)=false by simp [m],qQ] at e
      rw[qR m] at d
      obtain⟨_,_,e⟩:=bd e
      obtain⟨g,Q,e⟩:=bd e
      obtain⟨_,_,e⟩:=bd e
      obtain⟨v,u,e⟩:=bd e
      obtain⟨a,o,e⟩:=bd e
      obtain⟨_,e⟩:=LO e
      rw[NH u,Yu Q,o] at d
      exact next (d (by rfl) rfl) e
     ·rw[show decide (x.C≠ -1)=true by simp [m],qO] at e
      rw[qP m] at d
      obtain⟨_,_,e⟩:=bd e
      obtain⟨t,M,e⟩:=bd e
      obtain⟨_,_,e⟩:=bd e
      obtain⟨g,Q,e⟩:=bd e
      obtain⟨_,_,e⟩:=bd e
      obtain⟨v,u,e⟩:=bd e
      obtain⟨a,o,e⟩:=bd e
      obtain⟨_,e⟩:=LO e
      rw[NH u,NH M,Yu Q,o] at d
      exact next (d (by rfl) rfl) e
   ·rw[rD z,Bool.false_and,qQ,qQ] at e
    rw[qP (λh=>z h.1),qP z] at d i
    by_cases m:x.C=(p:Int)∧x.B=4
    ·rw[rF m.1,rF m.2,Bool.and_self,qO] at e
     rw[qR m] at d
     obtain⟨_,_,e⟩:=bd e
     obtain⟨f,X,e⟩:=bd e
     obtain⟨_,_,e⟩:=bd e
     obtain⟨v,u,e⟩:=bd e
     obtain⟨a,o,e⟩:=bd e
     obtain⟨c,q,e⟩:=bd e
     obtain⟨_,e⟩:=LO e
     rw[NH u,NH X,o] at d
     rw[M9 U m.2] at o
     have p1:=Pg f x.L x.I
     have p2:=Pg v x.Ac x.Aa
     have o:=qS o
     rw[Qa N (by omega) (by omega) (by omega) (by omega)] at q
     have q:=qS q
     exact next (d (by rw[←q];rfl) rfl) e
    ·have Y:(decide (x.C=(p:Int))&&decide (x.B=4))=false:=by
      rw[Bool.and_eq_false_iff,rO,rO]
      by_cases D:x.C=(p:Int)
      ·exact .inr λK=>m ⟨D,K⟩
      ·exact .inl D
     rw[Y,qQ] at e
     rw[qP m] at i
     exact next (i rfl) e
  ·rw[E4 y,qQ] at e
   have e:=qS e
   subst e
   have:k=w.b.E.length:=by omega
   subst this
   exact⟨al,h⟩
def VM {N:Nat}(n:18446744073709551616<N) {w:AX}{p:Nat}{e:AK}{W:Nat}(o:W≤64) {a:Int}{x:List Int}(m:w.s.F[p]? =some x) (c:PX W x) (u:e.take=iZ N a) {y}(I:ER N w (p:Int) e=some y):∃i,y.1[p]? =some i∧PX W i∧i.sum=x.sum-max 0 (min a x.sum):=by
 have j:=(rB.1 m).1
 obtain⟨t,z,A,B⟩:=M8 n o a x c
 obtain⟨C,D,_⟩:=A.sub c
 unfold ER at I
 rw[u] at I
 obtain⟨_,_,I⟩:=bd I
 obtain⟨H,k,I⟩:=bd I
 obtain⟨q,b,I⟩:=bd I
 obtain⟨_,_,I⟩:=bd I
 obtain⟨_,_,I⟩:=bd I
 obtain⟨v,_,I⟩:=bd I
 have g:=(D0 k).2
 rw[sF,m] at g
 have g:=qS g
 rw[←g] at b
 have b:A3 N a x=some q:=b
 rw[z] at b
 have b:=qS b
 have d:y.1=upd w.s.F (p:Int) (JJ x t):=by
  rw[←b] at I
  cases G:decide (v≤0)<;>rw[G] at I
  ·rw[qQ] at I
   obtain⟨_,I⟩:=LO I
   cases l:decide (e.to_= -1)<;>rw[l] at I
   ·rw[qQ] at I
    obtain⟨_,_,I⟩:=bd I
    obtain⟨_,I⟩:=LO I
    cases I;rfl
   ·rw[qO] at I
    obtain⟨_,_,I⟩:=bd I
    cases I;rfl
  ·cases I;rfl
 exact⟨JJ x t,by rw[d];exact F5 j _,C,by rw[D,B]⟩
def VL {N:Nat}{w:AX}{i q:Nat}(c:q≠i) {e:AK}{y}(g:ER N w (i:Int) e=some y):y.1[q]? =w.s.F[q]? :=by
 unfold ER at g
 obtain⟨_,_,g⟩:=bd g
 obtain⟨_,_,g⟩:=bd g
 obtain⟨t,_,g⟩:=bd g
 obtain⟨_,_,g⟩:=bd g
 obtain⟨_,_,g⟩:=bd g
 obtain⟨v,_,g⟩:=bd g
 have a:y.1=upd w.s.F (i:Int) t.2:=by
  cases d:decide (v≤0)<;>rw[d] at g
  ·rw[qQ] at g
   obtain⟨_,g⟩:=LO g
   cases b:decide (e.to_= -1)<;>rw[b] at g
   ·rw[qQ] at g
    obtain⟨_,_,g⟩:=bd g
    obtain⟨_,g⟩:=LO g
    cases g;rfl
   ·rw[qO] at g
    obtain⟨_,_,g⟩:=bd g
    cases g;rfl
  ·cases g;rfl
 rw[a,Hb (λg=>c g.symm)]
abbrev eC:=List (List Int)×List Int×List Int×List BB×List BD
def dE {N:Nat}(K:18446744073709551616<N) {w:AX}{p:Nat}{W:Nat}(Q:W≤64) {g:List AK}{al:List Int}(i:g.map (λe=>e.take)=al.map (iZ N)) (C:g.length≤1000) {U:List (List Int)→List Int→List BB→List BD→Option eC}:∀(n k:Nat) {o:List (List Int)}{d:List Int}{v:List BB}{A:List BD}{r:eC}{x:List Int},k≤g.length→o[p]? =some x→PX W x→Cd N w (p:Int) g U n (k:Int) o d v A=some r→∃B c j l t,U B c j l=some r∧B[p]? =some t∧PX W t∧t.sum=max 0 (x.sum-((al.drop k).map λa=>max 0 a).sum)
 |0,_,_,_,_,_,_,_,_,_,_,e=>by cases e
 |n+1,k,o,d,v,A,r,x,hk,V,m,e=>by
  have h0:=m.sum0
  have Y:al.length=g.length:=by
   have:=rE List.length i
   rwa [uB,uB,eq_comm] at this
  simp only[Cd] at e
  rcases rL k g.length with q|q
  ·rw[En q,qO,BR q,qN,qN,BT (by omega)] at e
   obtain⟨y,F,e⟩:=bd e
   have u:k<al.length:=by omega
   have G:(g[k]).take=iZ N al[k]:=by
    have X:(g.map λe=>e.take)[k]? =(al.map (iZ N))[k]? :=by rw[i]
    rw[sQ,sQ,rC q,rC u] at X
    exact qS X
   obtain⟨x1,H,I,J⟩:=VM K (w:=(⟨w.b,w.in_,(⟨w.s.D,o,w.s.O,w.s.M,w.s.P,w.s.S,d⟩:A7),v,w.peaks,A⟩:AX)) Q V m G F
   obtain⟨B,c,j,l,t,Z,q2,q3,q4⟩:=dE K Q i C n (k+1) q H I e
   refine⟨B,c,j,l,t,Z,q2,q3,?_⟩
   have h2:0≤((al.drop (k+1)).map λa=>max 0 a).sum:=J5 λy F=>by
    obtain⟨z,_,rfl⟩:=rX.1 F
    omega
   rw[q4,J,uJ u,sM,sU]
   omega
  ·rw[E4 q,qQ] at e
   refine⟨o,d,v,A,x,e,V,m,?_⟩
   rw[tJ (by omega)]
   simp
   omega
def Ye {N:Nat}{w:AX}{i q:Nat}(p:q≠i) {t:List AK}{u:List (List Int)→List Int→List BB→List BD→Option eC}:∀(n:Nat) (k:Int) {o:List (List Int)}{c:List Int}{l:List BB}{m:List BD}{r:eC},Cd N w (i:Int) t u n k o c l m=some r→∃j a d g,u j a d g=some r∧j[q]? =o[q]?
 |0,_,_,_,_,_,_,e=>by cases e
 |n+1,k,o,c,l,m,r,e=>by
  simp only[Cd] at e
  cases v:decide (k<(t.length:Int))<;>rw[v] at e
  ·exact⟨_,_,_,_,e,rfl⟩
  ·rw[qO] at e
   obtain⟨_,_,e⟩:=bd e
   obtain⟨_,_,e⟩:=bd e
   obtain⟨y,x,e⟩:=bd e
   obtain⟨j,a,d,g,z,A⟩:=Ye p n _ e
   exact⟨j,a,d,g,z,A.trans (VL (w:=(⟨w.b,w.in_,(⟨w.s.D,o,w.s.O,w.s.M,w.s.P,w.s.S,c⟩:A7),l,w.peaks,m⟩:AX)) p x)⟩
def lF {N:Nat}(u:18446744073709551616<N) {w:AX}{p:Nat}{W:Nat}(z:W≤64) {pl:Dm}(m:0≤pl.Ae∧pl.Ae≤1125899906842624) {o:List (List Int)}{c:List Int}{q:List BB}{t:List BD}{rem:List Int}{r:eC}{x:List Int}(j:o[p]? =some x) (a:PX W x) (e:CF N w (p:Int) pl o c q t rem=some r):∃y,r.1[p]? =some y∧y.sum=min pl.Ae x.sum:=by
 have A:=a.mv
 have h0:=a.sum0
 unfold CF at e
 obtain⟨_,_,e⟩:=bd e
 obtain⟨H,k,e⟩:=bd e
 obtain⟨v,g,e⟩:=bd e
 have i:=(D0 k).2
 rw[sF,j] at i
 have i:=qS i
 rw[←i,a.total (by omega) (by omega)] at g
 have g:=qS g
 rw[←g,Cx (n:=x.sum-pl.Ae) (by omega) (by omega)] at e
 by_cases d:0<x.sum-pl.Ae
 ·rw[rF d,qO,FM,qN] at e
  obtain⟨y,B,e⟩:=bd e
  obtain⟨C,l,F,G⟩:=VM u (w:=(⟨w.b,w.in_,(⟨w.s.D,o,rem,w.s.M,w.s.P,w.s.S,c⟩:A7),q,w.peaks,t⟩:AX)) z j a (by rfl) B
  cases e
  exact⟨C,l,by omega⟩
 ·rw[rD d,qQ] at e
  cases e
  exact⟨x,j,by omega⟩
def lE {N:Nat}{w:AX}{i q:Nat}(g:q≠i) {pl:Dm}{o:List (List Int)}{a:List Int}{c:List BB}{d:List BD}{rem:List Int}{r:eC}(e:CF N w (i:Int) pl o a c d rem=some r):r.1[q]? =o[q]? ∧r.2.1=rem:=by
 unfold CF at e
 obtain⟨_,_,e⟩:=bd e
 obtain⟨_,_,e⟩:=bd e
 obtain⟨v,_,e⟩:=bd e
 cases j:decide (0<Bw (v-pl.Ae))<;>rw[j] at e
 ·cases e;exact⟨rfl,rfl⟩
 ·rw[qO] at e
  obtain⟨_,_,e⟩:=bd e
  obtain⟨y,k,e⟩:=bd e
  cases e
  exact⟨VL (w:=(⟨w.b,w.in_,(⟨w.s.D,o,rem,w.s.M,w.s.P,w.s.S,a⟩:A7),c,w.peaks,d⟩:AX)) g k,rfl⟩
def Vv {N:Nat}{w:AX}{p:Nat}(g:∀t∈w.in_.Ad,t.An≠(p:Int)):∀(n:Nat) (i:Int) {l a:List AK},CR N w (p:Int) (DQ N) n l i=some a→a=l
 |0,_,_,_,e=>by cases e
 |n+1,i,l,a,e=>by
  simp only[CR] at e
  cases b:decide (i<(w.in_.Ad.length:Int))<;>rw[b] at e
  ·exact(qS e).symm
  ·rw[qO] at e
   obtain⟨t,c,e⟩:=bd e
   have d:=g t (sC (D0 c).2)
   rw[show decide (t.An≠(p:Int))=true by simp [d],qO,qN,Bool.true_or,qO] at e
   exact Vv g n _ e
def V2 (N:Nat) (pl:Dm) (v m:Int):Int:=if pl.I=0 then 0 else max 0 ((Gg N pl v m).getD (0,0)).1
def fK {N:Nat}(i:18446744073709551616<N) {w:AX}{p:Nat}{W:Nat}(u:W≤64) (hL:w.b.E.length≤1000) {pl:Dm}(C:w.b.A[p]? =some pl) (d:0≤pl.Ae∧pl.Ae≤1125899906842624) (G:∀t∈w.in_.Ad,t.An≠(p:Int)) {r:eC}{x:List Int}(hx:w.s.F[p]? =some x) (H:PX W x) {m:Int}(hm:w.s.O[p]? =some m) (e:D6 N w (p:Int)=some r):∃y,r.1[p]? =some y∧y.sum=min pl.Ae (max 0 (x.sum-(Uc N w.b w.s.P w.peaks p w.b.E.length+V2 N pl (KX w.peaks p) m))):=by
 unfold D6 at e
 obtain⟨af,j,e⟩:=bd e
 obtain⟨tk,k,e⟩:=bd e
 obtain⟨fl,l,e⟩:=bd e
 obtain⟨ex,c,e⟩:=bd e
 have z:=(D0 j).2
 rw[sF,C] at z
 have z:=qS z
 subst z
 unfold HS at k
 have h1:=Vv G N 0 k
 subst h1
 unfold HT at l
 obtain⟨al,f1,f2,f3⟩:=WR i hL N 0 (al:=[]) (qW _) ⟨qX _,rfl,rfl⟩ l
 rw[SI (by omega) _ _ (by simp) (by omega),rQ] at c
 have c:=qS c
 subst c
 obtain⟨o1,g,n,o,x1,a,q2,J,K⟩:=dE i u f2 (by omega) N 0 (qW _) hx H e
 rw[List.drop_zero,f3] at K
 have h1:=J.sum0
 unfold D5 at a
 by_cases hd:pl.I=0
 ·rw[show decide (pl.I≠0)=false by simp [hd],qQ] at a
  obtain⟨y,Q,U⟩:=lF i u d q2 J a
  refine⟨y,Q,?_⟩
  unfold V2
  rw[qR hd,U,K,Int.add_zero]
 ·rw[show decide (pl.I≠0)=true by simp [hd],qO] at a
  obtain⟨_,_,a⟩:=bd a
  obtain⟨v,hv,a⟩:=bd a
  obtain⟨_,_,a⟩:=bd a
  obtain⟨m1,V,a⟩:=bd a
  obtain⟨X,Y,a⟩:=bd a
  obtain⟨_,_,a⟩:=bd a
  obtain⟨_,_,a⟩:=bd a
  obtain⟨_,_,a⟩:=bd a
  obtain⟨_,_,a⟩:=bd a
  obtain⟨t,_,a⟩:=bd a
  have B:=(D0 V).2
  rw[sF,hm] at B
  have B:=qS B
  have Z:V2 N pl (KX w.peaks p) m=max 0 X.1:=by
   unfold V2
   rw[qP hd,NH hv,B,Y];rfl
  have j3:∀rem,DI N w (p:Int) pl o1 g n o X (CF N w (p:Int) pl) rem=some r→∃y,r.1[p]? =some y∧y.sum=min pl.Ae (max 0 (x.sum-(Uc N w.b w.s.P w.peaks p w.b.E.length+V2 N pl (KX w.peaks p) m))):=λrem q=>by
   unfold DI at q
   rw[FM,qN] at q
   obtain⟨y2,aa,q⟩:=bd q
   obtain⟨x2,ab,ac,ad⟩:=VM i (w:=(⟨w.b,w.in_,(⟨w.s.D,o1,rem,w.s.M,w.s.P,w.s.S,g⟩:A7),n,w.peaks,o⟩:AX)) u q2 J (by rfl) aa
   obtain⟨y,Q,U⟩:=lF i u d ab ac q
   refine⟨y,Q,?_⟩
   rw[U,ad,Z,K]
   omega
  cases ae:decide (X.1≤t)<;>rw[ae] at a
  ·exact j3 _ a
  ·rw[qO] at a
   obtain⟨_,_,a⟩:=bd a
   obtain⟨_,_,a⟩:=bd a
   exact j3 _ a
def UH {N:Nat}{w:AX}{i q:Nat}(d:q≠i) {r:eC}(e:D6 N w (i:Int)=some r):r.1[q]? =w.s.F[q]? ∧r.2.1[q]? =w.s.O[q]? :=by
 unfold D6 at e
 obtain⟨pl,z,e⟩:=bd e
 obtain⟨_,_,e⟩:=bd e
 obtain⟨_,_,e⟩:=bd e
 obtain⟨B,_,e⟩:=bd e
 obtain⟨o,g,n,p,e,u⟩:=Ye d N 0 e
 have j:∀(l:List Int) (v:Int),(upd l (i:Int) v)[q]? =l[q]? :=λl v=>Hb (λH=>d H.symm) v
 unfold D5 at e
 cases A:decide (pl.I≠0)<;>rw[A] at e
 ·obtain⟨a,c⟩:=lE d e
  exact⟨a.trans u,by rw[c]⟩
 ·rw[qO] at e
  obtain⟨_,_,e⟩:=bd e
  obtain⟨_,_,e⟩:=bd e
  obtain⟨_,_,e⟩:=bd e
  obtain⟨_,_,e⟩:=bd e
  obtain⟨y,C,e⟩:=bd e
  obtain⟨_,_,e⟩:=bd e
  obtain⟨_,_,e⟩:=bd e
  obtain⟨_,_,e⟩:=bd e
  obtain⟨_,_,e⟩:=bd e
  obtain⟨t,_,e⟩:=bd e
  have x:∀rem,DI N w (i:Int) pl o g n p y (CF N w (i:Int) pl) rem=some r→r.1[q]? =w.s.F[q]? ∧r.2.1=rem:=λrem e=>by
   unfold DI at e
   obtain⟨_,_,e⟩:=bd e
   obtain⟨G,k,e⟩:=bd e
   obtain⟨a,c⟩:=lE d e
   exact⟨(a.trans (VL (w:=(⟨w.b,w.in_,(⟨w.s.D,o,rem,w.s.M,w.s.P,w.s.S,g⟩:A7),n,w.peaks,p⟩:AX)) d k)).trans u,c⟩
  cases m:decide (y.1≤t)<;>rw[m] at e
  ·obtain⟨a,c⟩:=x _ e
   exact⟨a,by rw[c,j]⟩
  ·rw[qO] at e
   obtain⟨_,_,e⟩:=bd e
   obtain⟨_,_,e⟩:=bd e
   obtain⟨a,c⟩:=x _ e
   exact⟨a,by rw[c,j,j]⟩
def Ty {N:Nat}{b:AU}{in_:DO}{s:A7}{y z}{p:Nat}(j:b.A.length≤1000):∀(n k:Nat) {o:List (List Int)}{d a:List Int}{g:List BB}{i:List BD}{r},p<k→k≤b.A.length→DM N b in_ s y z (DT N s y z) n (k:Int) o d a g i=some r→r.1.F[p]? =o[p]?
 |0,_,_,_,_,_,_,_,_,_,e=>by cases e
 |n+1,k,o,d,a,g,i,r,l,t,e=>by
  simp only[DM] at e
  rcases rL k b.A.length with c|c
  ·rw[En c,qO,BT (by omega)] at e
   obtain⟨q,m,e⟩:=bd e
   rw[Ty j n (k+1) (by omega) c e]
   exact(UH (w:=(⟨b,in_,(⟨s.D,o,d,z.2.1,z.2.2.1,y.2.1,a⟩:A7),g,z.2.2.2,i⟩:AX)) (by omega) m).1
  ·rw[E4 c,qQ] at e
   unfold DT at e
   obtain⟨_,e⟩:=LO e
   cases e
   rfl
def cV {N:Nat}(G:18446744073709551616<N) {b:AU}{in_:DO}{s:A7}{y z}{p:Nat}{W:Nat}(H:W≤64) (I:b.A.length≤1000) (J:b.E.length≤1000) {pl:Dm}(d:b.A[p]? =some pl) (c:0≤pl.Ae∧pl.Ae≤1125899906842624) (g:∀t∈in_.Ad,t.An≠(p:Int)):∀(n k:Nat) {o:List (List Int)}{i a:List Int}{l:List BB}{u:List BD}{r}{x:List Int}{m:Int},k≤p→o[p]? =some x→PX W x→i[p]? =some m→DM N b in_ s y z (DT N s y z) n (k:Int) o i a l u=some r→∃q,r.1.F[p]? =some q∧q.sum=min pl.Ae (max 0 (x.sum-(Uc N b z.2.2.1 z.2.2.2 p b.E.length+V2 N pl (KX z.2.2.2 p) m)))
 |0,_,_,_,_,_,_,_,_,_,_,_,_,_,e=>by cases e
 |n+1,k,o,i,a,l,u,r,x,m,U,K,j,M,e=>by
  have V:=(rB.1 d).1
  simp only[DM] at e
  rw[En (show k<b.A.length by omega),qO,BT (by omega)] at e
  obtain⟨q,Q,e⟩:=bd e
  by_cases X:k=p
  ·subst X
   obtain⟨v,B,C⟩:=fK G (w:=(⟨b,in_,(⟨s.D,o,i,z.2.1,z.2.2.1,y.2.1,a⟩:A7),l,z.2.2.2,u⟩:AX)) H J d c g K j M Q
   exact⟨v,by rw[Ty I n (k+1) (by omega) (by omega) e];exact B,C⟩
  ·obtain⟨B,C⟩:=UH (w:=(⟨b,in_,(⟨s.D,o,i,z.2.1,z.2.2.1,y.2.1,a⟩:A7),l,z.2.2.2,u⟩:AX)) (q:=p) (by omega) Q
   exact cV G H I J d c g n (k+1) (by omega) (B.trans K) j (C.trans M) e
end Go.Proofs.YtblcgjadhemlbaaGreat
