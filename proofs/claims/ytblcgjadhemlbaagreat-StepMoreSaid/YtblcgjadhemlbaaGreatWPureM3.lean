import Derived.Test.YtblcgjadhemlbaaGreatWPureM1
import Derived.Test.YtblcgjadhemlbaaGreatWPureR3
namespace Go.Proofs.YtblcgjadhemlbaaGreat
set_option linter.all false
open Go.RowKit
def YW {N:Nat}(a:18446744073709551616<N) {b:AU}{l:BL}(g:IA b l) (h0:l.B=0) (c:J7 N l≤1099511627776):Xk (KE l.Af) (J7 N l):=by
 obtain⟨d,i,j,_⟩:=g.gate h0
 obtain⟨_,k,o,_,m⟩:=Oc a d i j
 have n:J7 N l=Xg N l:=by unfold J7;rw[qR h0]
 rw[n] at c ⊢
 exact Vz a d k c m
structure Zz (s x a c:Int):Prop where
 lo:a≤c
 up:(c-a-1)*1099511627776≤s*x
def Zz.same {s x a:Int}(b:0≤s) (c:0≤x):Zz s x a a:=⟨rN _,by have:=tZ b c;omega⟩
def YJ {n d s:Int}(i:Va n d s) {u v x y:Int}(c:0≤x) (a:x≤y) (g:y≤1125899906842624) (hd:y-x≤v-u):Zz s (v-u) (pt x n d) (pt y n d):=by
 have b:=i.lip c a g
 exact⟨b.1,Int.le_trans b.2.2 (uE hd i.s0)⟩
def fR {N:Nat}(m:18446744073709551616<N) {b:AU}{l:BL}(hb:IA b l) {s t:Int}(A:iS N l s t) (hr:l.B=0→Xk (KE l.Af) s) (h3:l.B≠3) (h4:l.B≠4) {g:BG}(i:0≤g.W∧g.W≤l.R) {u v:Int}(to:Int) (C:0≤u) (F:u≤v) (G:v≤1125899906842624):
  ∃a c,Iw N l g u to=some a∧Iw N l g v to=some c∧Zz s (v-u) a c:=by
 have H:=A.s0
 have hk:=hb.kind
 unfold Iw
 by_cases h0:l.B=0
 ·obtain⟨o,_,_,_,_,J,U,_⟩:=A.gate h0
  obtain⟨k,p,q,V,e⟩:=dZ m h0 o J U (to:=to) i g.Ao (fr:=u) ⟨C,by omega⟩
  obtain⟨k',K,M,j,e'⟩:=dZ m h0 o J U (to:=to) i g.Ao (fr:=v) ⟨by omega,G⟩
  have Q:=XQ l (to:=to) F
  have X:=V.mono (QT o) j Q.1
  have m2:=V.lip (QT o) (hr h0) j Q.1
  have m3:=uE Q.2 H
  have m4:=S5 (t:=J4 p q (KC l u to)) (t':=J4 K M (KC l v to)) (n:=g.W) (d:=l.R) J.1 i.1 X
  have m5:=fT (y:=J4 p q (KC l u to)) (z:=J4 K M (KC l v to)) (p:=g.W) (P:=l.R) i.1 i.2 X
  rw[e,e']
  refine⟨_,_,rfl,rfl,by omega,?_⟩
  refine Int.le_trans (tF (c:=1099511627776) (show _≤J4 K M (KC l v to)-J4 p q (KC l u to)-1 by omega) (by decide)) (Int.le_trans m2 m3)
 ·unfold Iu
  simp only[rD h0,qQ]
  by_cases Y:l.B=2
  ·simp only[rF Y,qO,JS,Oo m,qN]
   exact⟨_,_,rfl,rfl,Zz.same H (by omega)⟩
  ·simp only[rD Y,rD h3,qQ]
   obtain⟨hS,aa,ab⟩:=A.weir (by omega)
   have w:∀x,0≤x→x≤1125899906842624→HJ N l x=some (pt (max 0 (x-l.Al)) l.L l.I):=λx ac ad=>by
    unfold HJ
    rw[Qa N (by omega) (by omega) (by omega) (by omega),qN,Oo m,qN]
   have D:=YJ hS (u:=u) (v:=v) (x:=max 0 (u-l.Al)) (y:=max 0 (v-l.Al)) (by omega) (by omega) (by omega) (by omega)
   by_cases Z:l.B=5
   ·simp only[rF Z,qO,JT,w u C (by omega),w v (by omega) G]
    cases g.Ao
    ·exact⟨0,0,rfl,rfl,Zz.same H (by omega)⟩
    ·exact⟨_,_,rfl,rfl,D⟩
   ·simp only[rD Z,rF (show l.B=1 by omega),qO,qQ,w u C (by omega),w v (by omega) G]
    exact⟨_,_,rfl,rfl,D⟩
def OB (l:BL) (p:Nat):Int:=if l.G=(p:Int)∨l.C=(p:Int) then 2 else 0
def Zz.max0 {s x a c C:Int}(i:Zz s x a c) (b:s*x≤C): -2≤max 0 c-max 0 a∧(max 0 c-max 0 a-2)*1099511627776≤C:=by
 have d:=i.lo
 have g:=i.up
 omega
structure Zk (b:AU) (pk pk':List Int) (p:Nat) (x:Int):Prop where
 x0:0≤x
 lo:∀i,0≤KX pk i∧KX pk i≤1125899906842624
 at_:KX pk' (p:Int)=KX pk (p:Int)+x
 hi:KX pk' (p:Int)≤1125899906842624
 oth:∀i:Int,0≤i→i≠(p:Int)→KX pk' i=KX pk i
def lO {N:Nat}(A:18446744073709551616<N) {b:AU}(Y:W2 N b) (M:∀l∈b.E,l.C= -1∨l.C≠l.G) (s:∀l∈b.E,l.B=0→Xk (KE l.Af) (J7 N l)) {o:List BG}(Z:Lp b o) {g d:List Int}{p:Nat}{x:Int}(h:Zk b g d p x) (hs:∀l∈b.E,l.G=(p:Int)→l.B≠3) {k:Nat}(J:k<b.E.length):
  -(OB (Lc b k) p)≤max 0 (Wc N b o d p k)-max 0 (Wc N b o g p k)∧(max 0 (Wc N b o d p k)-max 0 (Wc N b o g p k)-OB (Lc b k) p)*1099511627776≤MY N (Lc b k) p*x:=by
 have hx:=h.x0
 have t:=h.lo (p:Int)
 have aa:=h.at_
 have w:=h.hi
 have F:k<o.length:=by rw[Z.1];exact J
 have Q:o.getD k default=o[k]:=by simp [rR,F]
 have U:=Z.2 k _ _ (rC J) (rC F)
 unfold Wc
 rw[NJ J,Q]
 have i:=rH J
 have V:=Y.links _ i
 have H:=Y.lk _ i
 have n1:=M _ i
 have n2:=s _ i
 have n3:=hs _ i
 have s0:=H.s0
 have t0:=H.t0
 generalize b.E[k]=l at*
 have ab:=V.to
 by_cases m:l.G=(p:Int)
 ·have y:l.C≠(p:Int):=by omega
  have K:OB l p=2:=by unfold OB;rw[qR (.inl m)]
  have q:MY N l p=J7 N l:=by unfold MY;rw[qR m,qP y];omega
  rw[K,q]
  by_cases z:l.B=4
  ·have W:=H.seep z
   have e:KX d l.C=KX g l.C:=h.oth _ (by omega) y
   have D:=YJ W.1 (u:=KX g (p:Int)) (v:=KX d (p:Int)) t.1 (by omega) w (rN _)
   rw[show KX d (p:Int)-KX g (p:Int)=x by omega] at D
   have n:¬(l.G=(p:Int)∧l.B≠4):=λh=>h.2 z
   rw[qP n,qR m,qP n,qR m,M9 A z,M9 A z,e,rZ,rZ]
   have X:Zz (J7 N l) x (pt (KX g (p:Int)) l.L l.I-pt (KX g l.C) l.Ac l.Aa) (pt (KX d (p:Int)) l.L l.I-pt (KX g l.C) l.Ac l.Aa):=⟨by have:=D.lo;omega,by have:=D.up;omega⟩
   exact X.max0 (rN _)
  ·have e:(if l.C= -1 then (0:Int) else KX d l.C)=if l.C= -1 then 0 else KX g l.C:=by
    by_cases j:l.C= -1
    ·rw[qR j,qR j]
    ·rw[qP j,qP j,h.oth _ (by omega) y]
   obtain⟨a,c,e1,e2,D⟩:=fR A V H n2 (n3 m) z U.pos (u:=KX g (p:Int)) (v:=KX d (p:Int)) (if l.C= -1 then 0 else KX g l.C) t.1 (by omega) w
   rw[show KX d (p:Int)-KX g (p:Int)=x by omega] at D
   have q:l.G=(p:Int)∧l.B≠4:=⟨m,z⟩
   rw[qR q,qR q,e,e1,e2,rZ,rZ]
   exact D.max0 (rN _)
 ·have n:¬(l.G=(p:Int)∧l.B≠4):=λh=>m h.1
  rw[qP n,qP m,qP n,qP m]
  by_cases j:l.C=(p:Int)∧l.B=4
  ·have W:=H.seep j.2
   have K:OB l p=2:=by unfold OB;rw[qR (.inr j.1)]
   have q:MY N l p=Mv N l:=by unfold MY;rw[qP m,qR j.1];omega
   have e:KX d l.G=KX g l.G:=h.oth _ V.fr.1 m
   have D:=YJ W.2.1 (u:=KX g (p:Int)) (v:=KX d (p:Int)) t.1 (by omega) w (rN _)
   rw[show KX d (p:Int)-KX g (p:Int)=x by omega] at D
   rw[K,q,qR j,qR j,M9 A j.2,M9 A j.2,e,rZ,rZ]
   have X:Zz (Mv N l) x (0-(pt (KX g l.G) l.L l.I-pt (KX g (p:Int)) l.Ac l.Aa)) (0-(pt (KX g l.G) l.L l.I-pt (KX d (p:Int)) l.Ac l.Aa)):=⟨by have:=D.lo;omega,by have:=D.up;omega⟩
   exact X.max0 (rN _)
  ·rw[qP j,qP j]
   have K:0≤OB l p:=by unfold OB;split<;>omega
   have q:0≤MY N l p:=by unfold MY;split<;>split<;>omega
   have:=tZ q hx
   omega
def dI {N:Nat}(j:18446744073709551616<N) {b:AU}(m:W2 N b) (i:∀l∈b.E,l.C= -1∨l.C≠l.G) (c:∀l∈b.E,l.B=0→Xk (KE l.Af) (J7 N l)) {d:List BG}(o:Lp b d) {g a:List Int}{p:Nat}{x:Int}(A:Zk b g a p x) (q:∀l∈b.E,l.G=(p:Int)→l.B≠3):∀n,n≤b.E.length→
  -(sm (λk=>OB (Lc b k) p) n)≤Uc N b d a p n-Uc N b d g p n∧(Uc N b d a p n-Uc N b d g p n-sm (λk=>OB (Lc b k) p) n)*1099511627776≤sm (λk=>MY N (Lc b k) p) n*x
 |0,_=>by
  show -(0:Int)≤0-0∧((0:Int)-0-0)*1099511627776≤0*x
  rw[Int.zero_mul];decide
 |n+1,u=>by
  obtain⟨v,w⟩:=dI j m i c o A q n (by omega)
  obtain⟨y,z⟩:=lO j m i c o A q (k:=n) (by omega)
  have s:Uc N b d a p (n+1)=Uc N b d a p n+max 0 (Wc N b d a p n):=rfl
  have t:Uc N b d g p (n+1)=Uc N b d g p n+max 0 (Wc N b d g p n):=rfl
  rw[s,t]
  simp only[sm]
  rw[Int.add_mul]
  omega
def Rv {N:Nat}(j:18446744073709551616<N) {pl:Dm}{s:Int}(o:Va pl.L pl.I s) (hd:pl.I≠0) {v:Int}(a:0≤v∧v≤1125899906842624) (m:Int):∃y,Gg N pl v m=some y∧pt v pl.L pl.I≤y.1∧y.1≤pt v pl.L pl.I+1:=by
 have h0:=o.n0
 have c:=o.nd
 have g:=o.dm
 have l:=Qw (t:=v) (n:=pl.L) (d:=pl.I) (by omega) c a.1
 have k:=Ot (t:=v) (n:=pl.L) (d:=pl.I) (by omega) h0 a.1
 rw[V9 a h0 c g]
 unfold Gg
 rw[KH j,VB a ⟨h0,by omega⟩ ⟨by omega,g⟩ (by omega),qN]
 simp only[sH,qQ]
 have i:∀b,∃y,FU N pl (v*pl.L/pl.I,v*pl.L%pl.I,true) b=some y∧v*pl.L/pl.I≤y.1∧y.1≤v*pl.L/pl.I+1:=λb=>by
  unfold FU
  simp only
  cases decide (Bw (v*pl.L%pl.I+b)<pl.I)
  ·rw[qQ,Cx (n:=v*pl.L/pl.I+1) (by omega) (by omega)]
   exact⟨_,rfl,by show _≤v*pl.L/pl.I+1;omega,rN _⟩
  ·exact⟨_,rfl,rN _,by show v*pl.L/pl.I≤_;omega⟩
 cases (decide (0≤m)&&decide (m<pl.I))
 ·exact i 0
 ·exact i m
def jZ {N:Nat}(c:18446744073709551616<N) {pl:Dm}{s:Int}(i:0≤s) (w:pl.I≠0→Va pl.L pl.I s) {u v:Int}(d:0≤u) (a:u≤v) (g:v≤1125899906842624) (m:Int): -2≤V2 N pl v m-V2 N pl u m∧(V2 N pl v m-V2 N pl u m-2)*1099511627776≤s*(v-u):=by
 unfold V2
 by_cases hd:pl.I=0
 ·rw[qR hd,qR hd]
  have:=tZ i (show 0≤v-u by omega)
  omega
 ·have b:=w hd
  obtain⟨y,j,l,n⟩:=Rv c b hd (v:=u) ⟨d,by omega⟩ m
  obtain⟨z,k,o,p⟩:=Rv c b hd (v:=v) ⟨by omega,g⟩ m
  have L:=b.lip d a g
  have q:=Pg u pl.L pl.I
  have t:=Pg v pl.L pl.I
  rw[qP hd,qP hd,j,k,rZ,rZ]
  omega
def R0 {N:Nat}{b:AU}(B:b.A.length≤64) (D:b.E.length≤1000):∀(n k:Nat),k≤b.E.length→Cf N b (DY N) n (k:Int)=some true→∀l∈b.E.drop k,l.C= -1∨l.C≠l.G
 |0,_,_,Q=>by cases Q
 |n+1,k,M,Q=>by
  simp only[Cf] at Q
  rcases rL k b.E.length with g|g
  ·rw[En g,qO,BR g,qN,BT (by omega)] at Q
   obtain⟨_,_,Q⟩:=bd Q
   obtain⟨F,_,Q⟩:=bd Q
   obtain⟨H,a,Q⟩:=bd Q
   obtain⟨I,s,Q⟩:=bd Q
   obtain⟨J,t,Q⟩:=bd Q
   obtain⟨j,u,v⟩:=bd Q
   have q:∀{c d:Bool} {y:Option Bool},cond c (some true) y=some d→d=false→c=false:=λ{c d y} e hd=>by
    cases c
    ·rfl
    ·rw[qO] at e;rw[←qS e] at hd;cases hd
   have m:j=false:=by
    cases j
    ·rfl
    ·cases v
   have w:=q u m
   have x:=q t w
   have o:=q s x
   have i:Pd b.A.length (b.E[k]).G (b.E[k]).C=true:=by
    have z:=q a o
    rw[z,qQ,Nf N b _ _ (by omega),qN,o] at a
    have:=qS a
    cases e:Pd b.A.length (b.E[k]).G (b.E[k]).C
    ·rw[e] at this;cases this
    ·rfl
   rw[m,qQ] at v
   have K:=R0 B D n (k+1) g v
   rw[uJ g]
   intro l p
   rcases rG.1 p with rfl|p
   ·simp only[Pd,rI,qT,rJ] at i
    rcases i with i|i
    ·exact .inl i
    ·exact .inr i.2
   ·exact K l p
  ·rw[tJ g]
   intro l p
   cases p
end Go.Proofs.YtblcgjadhemlbaaGreat
namespace Go.Proofs.YtblcgjadhemlbaaGreat
set_option linter.all false
open Go.RowKit
def UJ (N:Nat) {w w':AX}(a:w.b=w'.b) (n:Nat):∀(i:Int) (l:List BG),C6 N w n i l=C6 N w' n i l:=by
 induction n with
 |zero=>intro i l;rfl
 |succ n c=>intro i l;simp only[C6,a,c]
def UK (N:Nat) {w w':AX}(a:w.b=w'.b) (c:w.in_=w'.in_) (n:Nat):∀(i:Int) (l:List BG),CS N w (Cb N w) n i l=CS N w' (Cb N w') n i l:=by
 induction n with
 |zero=>intro i l;rfl
 |succ n d=>
  intro i l
  have g:Cb N w l=Cb N w' l:=UJ N a N 0 l
  simp only[CS,FA,d,g]
  rw[a,c]
def UL (N:Nat) {w w':AX}(a:w.b=w'.b) (c:w.in_=w'.in_) (n:Nat):∀(i:Int) (l:List BG),CT N w (Cc N w) n i l=CT N w' (Cc N w') n i l:=by
 induction n with
 |zero=>intro i l;rfl
 |succ n d=>
  intro i l
  have g:Cc N w l=Cc N w' l:=UK N a c N 0 l
  simp only[CT,FB,d,g]
  rw[a,c]
def TQ {N:Nat}{w:AX}{y:List (List Int)×List BD}{o:List (List Int)}{a:List Int}:∀(n:Nat) (i:Int) {c:List BG}{r:List (List Int)×List BD×List BG×List Int},B3 N w y o a n i c=some r→r.2.2.2=a
 |0,_,_,_,e=>by cases e
 |n+1,i,c,r,e=>by
  simp only[B3,Du] at e
  cases d:decide (i<(w.b.E.length:Int))<;>rw[d] at e
  ·cases e;rfl
  ·rw[qO] at e
   obtain⟨l,_,e⟩:=bd e
   cases g:decide (l.B=3)<;>rw[g] at e
   ·exact TQ n _ e
   ·rw[qO] at e
    iterate 7 (replace e:=(bd e).choose_spec.2)
    exact TQ n _ e
def TP {N:Nat}{w w':AX}{y u:List (List Int)×List BD}{o x:List (List Int)}{s c:List Int}(d:w.b=w'.b) (j:∀l∈w.b.E,l.B=3→ix s l.G=ix c l.G):∀(n:Nat) (i:Int) {k:List BG}{r r':List (List Int)×List BD×List BG×List Int},B3 N w y o s n i k=some r→B3 N w' u x c n i k=some r'→r.2.2.1=r'.2.2.1
 |0,_,_,_,_,e,_=>by cases e
 |n+1,i,k,r,r',e,a=>by
  simp only[B3,Du] at e a
  rw[←d] at a
  cases z:decide (i<(w.b.E.length:Int))<;>rw[z] at e a
  ·cases e;cases a;rfl
  ·rw[qO] at e a
   obtain⟨l,t,e⟩:=bd e
   rw[t,qN] at a
   by_cases m:l.B=3
   ·have p:=j l (sC (D0 t).2) m
    rw[rF m,qO] at e a
    rw[←p] at a
    obtain⟨K,A,e⟩:=bd e
    obtain⟨g,C,e⟩:=bd e
    obtain⟨M,D,e⟩:=bd e
    obtain⟨v,F,e⟩:=bd e
    obtain⟨q,H,e⟩:=bd e
    obtain⟨Q,I,e⟩:=bd e
    obtain⟨U,J,e⟩:=bd e
    rw[C,qN,qN,F,qN,qN,H,qN,qN,qN] at a
    exact TP d j n _ e a
   ·rw[rD m,qQ] at e a
    exact TP d j n _ e a
def TS {N:Nat}{w:AX}{y:List (List Int)×List BD}:∀(n:Nat) (i:Int) {o:List (List Int)}{a:List Int}{r:List (List Int)×List BD×List BG×List Int},CZ N w y (C7 N w y) n i o a=some r→∃o a,B3 N w y o a N 0 w.s.P=some r
 |0,_,_,_,_,e=>by cases e
 |n+1,i,o,a,r,e=>by
  simp only[CZ] at e
  cases c:decide (i<(w.b.A.length:Int))<;>rw[c] at e
  ·exact⟨_,_,e⟩
  ·rw[qO] at e
   iterate 12 (replace e:=(bd e).choose_spec.2)
   exact TS n _ e
def Xc {N:Nat}{w w':AX}(d:w.b=w'.b) (g:w.s.P=w'.s.P) {z c:List (List Int)×List BD×List BG×List Int}(e:DR N w=some z) (a:DR N w'=some c) (i:∀l∈w.b.E,l.B=3→ix z.2.2.2 l.G=ix c.2.2.2 l.G):z.2.2.1=c.2.2.1:=by
 unfold DR at e a
 obtain⟨_,_,e⟩:=bd e
 obtain⟨_,_,a⟩:=bd a
 obtain⟨o,n,e⟩:=TS N 0 e
 obtain⟨p,j,a⟩:=TS N 0 a
 have k:=TQ N 0 e
 have m:=TQ N 0 a
 rw[←g] at a
 exact TP d (by rw[←k,←m];exact i) N 0 e a
def cU {N:Nat}{b:AU}{in_:DO}{s:A7}{y z}:∀(n:Nat) (i:Int) {o:List (List Int)}{c a:List Int}{d:List BB}{g:List BD}{r},DM N b in_ s y z (DT N s y z) n i o c a d g=some r→r.2.2=z.2.2.2∧r.1.P=z.2.2.1
 |0,_,_,_,_,_,_,_,e=>by cases e
 |n+1,i,o,c,a,d,g,r,e=>by
  simp only[DM] at e
  cases j:decide (i<(b.A.length:Int))<;>rw[j] at e
  ·rw[qQ] at e
   unfold DT at e
   obtain⟨_,e⟩:=LO e
   cases e
   exact⟨rfl,rfl⟩
  ·rw[qO] at e
   obtain⟨x,k,e⟩:=bd e
   exact cU n _ e
structure Vc (N:Nat) (b:AU) (s:A7) (in_:DO) (r:A7×List BB×List Int) (gs:List BG) (o2 inn ms z) (p:Nat) (V:Int):Prop where
 eg:E6 N (⟨b,in_,s,([]:List BB),(List.replicate ((b.A.length:Int)).toNat (0:Int)),([]:List BD)⟩:AX)=some gs
 ez:DR N (⟨b,in_,(⟨s.D,o2,s.O,s.M,gs,inn,s.U⟩:A7),ms,(List.replicate ((b.A.length:Int)).toNat (0:Int)),([]:List BD)⟩:AX)=some z
 pk:r.2.2=z.2.2.2
 pl:r.2.2.length=b.A.length
 pv:∀i,i<b.A.length→r.2.2[i]? =some (((s.F.map List.sum).getD i 0)+gk in_.X i+(O6 b.J.length s.D s.M i).sum)
 pr:∀x∈r.2.2,0≤x∧x≤1125899906842624
 own:Ir b.A.length b.J.length r.1.F
 gts:Lp b z.2.2.1
 fin:∀pl m,b.A[p]? =some pl→s.O[p]? =some m→∃q,r.1.F[p]? =some q∧q.sum=min pl.Ae (max 0 (V-(Uc N b z.2.2.1 z.2.2.2 p b.E.length+V2 N pl (KX z.2.2.2 p) m)))
def UQ (R:List Int) (n:Nat):∀d,Nn R n≤Nn R (n+d)
 |0=>rN _
 |d+1=>by
  have:=UQ R n d
  show _≤Nn R (n+d)+gk R (n+d)
  unfold gk
  omega
def aS (R:List Int) (n:Nat):Nn R n≤Nn R R.length:=by
 rcases Nat.le_total n R.length with a|a
 ·have:=UQ R n (R.length-n)
  rwa [show n+(R.length-n)=R.length by omega] at this
 ·have:=UP R (qX R.length) (n-R.length)
  rw[show R.length+(n-R.length)=n by omega] at this
  omega
def WB {N:Nat}(C:18446744073709551616<N) {b:AU}(c:J1 b) (hP:SQ b) {s:A7}(k:oL b s) (hq:s.M.length≤1000) {in_:DO}(h1:in_.Ap.length≤1000) (h2:in_.At.length≤1000) (h3:in_.Ad.length≤1000) (h4:in_.Ba.length≤1000) {p:Nat}(hp:p<b.A.length) (G:∀t∈in_.Ad,t.An≠(p:Int)) {x:Int}(H:0≤x) (hT:E8 s.F+HG s.M+Nn in_.X in_.X.length≤1125899906842624) (hI:s.S.sum+Nn in_.X in_.X.length≤1152921504606846976):∃r I K j Q z V,Gr N b s in_=some r∧r.2.2[p]? =some V∧Vc N b s in_ r I K j Q z p V:=by
 have hW:=c.head.own
 have ah:=c.head.pl
 have hL:=c.head.li
 obtain⟨o1,eo,U,x2,x3⟩:=YA (N:=N) (by omega) (b:=b) (s:=s) (in_:=in_) (W:=b.J.length) (by omega) (by omega) k.rg.x.own
 obtain⟨r,ai,o3,l,Y,Z,_⟩:=Z9 C c.head c.links c.places k.rg.x hq (in_:=in_) h1 h2 h3 eo U x2
 obtain⟨I,K,j,Q,z,ns,eS,a⟩:=Tu C c.head c.links c.places k.rg.x hq (in_:=in_) h1 h2 h3 eo U x2
 have el:=Y
 rw[eS] at el
 obtain⟨n,k2⟩:=cU N 0 el
 have aj:=aS in_.X b.A.length
 have aa:ns.sum=Nn in_.X b.A.length:=by
  have a1:=a.pw.sum
  rw[a.nl] at a1
  rcases a.max_ with e|e|e<;>omega
 have ab:∀i,i<b.A.length→ns[i]? =some (gk in_.X i):=λi o=>a.pw.eq (by rw[a.nl];exact aa) i (by rw[a.nl];exact o)
 have ac:=a.own.len
 have ad:r.2.2.length=b.A.length:=by rw[n,a.pk,uB];exact ac
 have ae:∀x∈r.2.2,0≤x∧x≤1125899906842624:=λx H=>by
  rw[n,a.pk] at H
  obtain⟨y,Z,rfl⟩:=rX.1 H
  have:=a.own.all y Z
  exact⟨this.sum0,this.mv⟩
 obtain⟨zp,_,q,u⟩:=a.own.ix hp
 have af:r.2.2[p]? =some zp.sum:=by rw[n,a.pk,sQ,q];rfl
 refine⟨r,I,K,j,Q,z,zp.sum,Y,af,a.eg,a.ez,n,ad,λi o=>?_,ae,Z.lv.ox,by rw[←k2];exact(Z8 C c.head c.places hP k Y).2,λpl m d hm=>?_⟩
 ·obtain⟨y,_,v,w⟩:=U.ix o
  obtain⟨zi,_,ak,u⟩:=a.own.ix o
  have ha:=a.at3 i y _ v (ab i o)
  have B:=Wn k.rg.x.que (t:=s.D) (p:=i) s.M.length (qX _)
  rw[rY] at B
  have ag:(s.F.map List.sum).getD i 0=y.sum:=by rw[←x3,rR,sQ,v];rfl
  rw[n,a.pk,sQ,ha]
  show some (Fw (Fw y _) _).sum=_
  rw[I1 (by rw[OY w.len (OF _ _),B.1]),I1 (by rw[w.len,OF]),PH c.head.own1,ag]
 ·have g:=(c.places pl (sC d)).cap
  unfold Hu at g
  exact cV C (by omega) (by omega) (by omega) d g G N 0 (qW _) q u hm el
def lA {N:Nat}(d:1000000<N) {in_:DO}(g:in_.Ad.length≤1000) (p:Nat) (a:Option Bool):C4 N in_ (p:Int) true a N 0=some true∨((∀t∈in_.Ad,t.An≠(p:Int))∧C4 N in_ (p:Int) true a N 0=a):=by
 rcases LN in_.Ad.length (λn i (_:Unit)=>C4 N in_ (p:Int) true a n i) (λ_=>a) (some true) (λk _=>∀t∈in_.Ad.take k,t.An≠(p:Int)) (λn k s b=>by
  simp only[C4];rw[E4 b];rfl) (λn k s c b=>by
  simp only[C4]
  rw[En b,qO,BR b,qN,BT (by omega)]
  by_cases j:(in_.Ad[k]).An=(p:Int)
  ·rw[rF j];exact .inl rfl
  ·rw[rD j];exact .inr ⟨(),JC b c j,rfl⟩) N 0 () (by simp) (by omega) (qW _) with e|⟨_,i1,e⟩
 ·exact .inl e
 ·rw[rY] at i1
  exact .inr ⟨i1,e⟩
def VN (l:BL) (p:Nat):0≤OB l p∧OB l p≤2:=by unfold OB;split<;>omega
def Vy {f:Nat→Int}{c:Int}(d:∀i,0≤f i∧f i≤c):∀n:Nat,0≤sm f n∧sm f n≤(n:Int)*c
 |0=>by simp [sm]
 |n+1=>by
  have a:=Vy d n
  have b:=d n
  simp only[sm]
  rw[Int.natCast_succ,Int.add_mul,Int.one_mul]
  omega
def kZ {N:Nat}(z:1000000<N) {b:AU}(A:b.E.length≤96) (p:Nat) (d:Int→Option Bool):CY N b (p:Int) true d N 2 0=some true∨((∀l∈b.E,l.G=(p:Int)→l.B≠3)∧CY N b (p:Int) true d N 2 0=d (2+sm (λk=>OB (Lc b k) p) b.E.length)):=by
 rcases LN b.E.length (λn i (s:Int)=>CY N b (p:Int) true d n s i) d (some true) (λk s=>(∀l∈b.E.take k,l.G=(p:Int)→l.B≠3)∧s=2+sm (λk=>OB (Lc b k) p) k) (λn k s a=>by
  simp only[CY];rw[E4 a];rfl) (λn k s x a=>by
  obtain⟨j,t⟩:=x
  have D:=Vy (f:=λk=>OB (Lc b k) p) (c:=2) (λi=>VN _ _) k
  have m:=NJ a
  simp only[CY,Fh]
  rw[En a,qO,BR a,qN,BT (by omega)]
  cases u:(decide ((b.E[k]).G=(p:Int))&&decide ((b.E[k]).B=3))
  ·rw[qQ]
   have o:(b.E[k]).G=(p:Int)→(b.E[k]).B≠3:=λy g=>by
    rw[rF y,rF g] at u;cases u
   have v:=JC (P:=λl:BL=>l.G=(p:Int)→l.B≠3) a j o
   have w:sm (λk=>OB (Lc b k) p) (k+1)=sm (λk=>OB (Lc b k) p) k+OB b.E[k] p:=by
    show sm (λk=>OB (Lc b k) p) k+OB (Lc b k) p=_
    rw[m]
   by_cases F:(b.E[k]).G=(p:Int)∨(b.E[k]).C=(p:Int)
   ·have q:OB b.E[k] p=2:=by unfold OB;rw[qR F]
    have hd:(decide ((b.E[k]).G=(p:Int))||decide ((b.E[k]).C=(p:Int)))=true:=by simpa using F
    rw[hd,qO,Cx (n:=s+2) (by omega) (by omega)]
    exact .inr ⟨s+2,⟨v,by rw[w,q];omega⟩,rfl⟩
   ·have q:OB b.E[k] p=0:=by unfold OB;rw[qP F]
    have hd:(decide ((b.E[k]).G=(p:Int))||decide ((b.E[k]).C=(p:Int)))=false:=by
     rw[rS,rO,rO]
     exact⟨λg=>F (.inl g),λg=>F (.inr g)⟩
    rw[hd,qQ]
    exact .inr ⟨s,⟨v,by rw[w,q];omega⟩,rfl⟩
  ·exact .inl rfl) N 0 2 ⟨by simp,by simp [sm]⟩ (by omega) (qW _) with e|⟨s,⟨j,t⟩,e⟩
 ·exact .inl e
 ·rw[rY] at j
  rw[←t]
  exact .inr ⟨j,e⟩
def kY {N:Nat}(j:1000000<N) {in_:DO}(l:in_.X.length≤1000) (b:Int→Option Bool):DL N in_ b N 0 0=b (Nn in_.X in_.X.length):=by
 obtain⟨s,c,e⟩:=Ee in_.X.length (λn i s=>DL N in_ b n s i) b (λk s=>s=Nn in_.X k) (λn k s a=>by
  simp only[DL];rw[E4 a];rfl) (λn k s d a=>by
  have m:=VR in_.X k
  have g:in_.X.getD k 0=in_.X[k]:=by simp [rR,a]
  simp only[DL]
  rw[En a,qO,BR a,qN,BT (by omega),Cx (n:=s+min (max in_.X[k] 0) 1125899906842624) (by omega) (by omega)]
  exact⟨_,by rw[d];simp only[Nn,gk,g],rfl⟩) N 0 0 rfl (by omega) (qW _)
 subst c
 exact e
end Go.Proofs.YtblcgjadhemlbaaGreat
