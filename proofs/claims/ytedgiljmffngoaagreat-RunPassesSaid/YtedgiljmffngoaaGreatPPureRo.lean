import Derived.Test.YtedgiljmffngoaaGreatPPureRs
import Derived.Test.YtedgiljmffngoaaGreatPPureEx
namespace Go.Proofs.YtedgiljmffngoaaGreat
set_option linter.all false
open Go.RowKit
structure kW (W:Nat) (φ:List Int→Int):Prop where
 add:∀{a b:List Int},a.length=W→b.length=W→φ (GA a b)=φ a+φ b
 sub:∀{a b:List Int},a.length=W→b.length=W→φ (IE a b)=φ a-φ b
def kW.zero {W:Nat}{d:List Int→Int}(g:kW W d):d (List.replicate W 0)=0:=by
 have c:=g.add (a:=List.replicate W 0) (b:=List.replicate W 0) Adb Adb;rw[RI Adb] at c;omega
def iP (W:Nat):kW W List.sum:=⟨λa b=>JE (a.trans b.symm),λa b=>Sg (a.trans b.symm)⟩
def X1 (a:List Int→Int) (p:Int) (q:List AO):Int:=(q.map λl=>if l.B=p then a l.K else 0).sum
def VY (a:List Int→Int) (p:Int) (q:List AI):Int:=(q.map λl=>if l.B=p then a l.K else 0).sum
def VZ (a:List Int→Int) (p:Int) (q:List AI):Int:=(q.map λl=>if l.D=p then a l.K else 0).sum
def X0 (a:List Int→Int) (p:Int) (l:AO) (q:List AO):X1 a p (l::q)=(if l.B=p then a l.K else 0)+X1 a p q:=by unfold X1;rw[Aaz,Aba]
def WA (a:List Int→Int) (p:Int) (l:AI) (q:List AI):VY a p (l::q)=(if l.B=p then a l.K else 0)+VY a p q:=by unfold VY;rw[Aaz,Aba]
def WC (a:List Int→Int) (p:Int) (l:AI) (q:List AI):VZ a p (l::q)=(if l.D=p then a l.K else 0)+VZ a p q:=by unfold VZ;rw[Aaz,Aba]
def iH (c:List Int→Int) (p:Int) (a b:List AO):X1 c p (a++b)=X1 c p a+X1 c p b:=by unfold X1;rw[Abt,Abq]
def Pa (c:List Int→Int) (p:Int) (a b:List AI):VY c p (a++b)=VY c p a+VY c p b:=by unfold VY;rw[Abt,Abq]
def N0 (c:List Int→Int) (p:Int) (a b:List AI):VZ c p (a++b)=VZ c p a+VZ c p b:=by unfold VZ;rw[Abt,Abq]
def VF {W:Nat}{u:List Int→Int}(d:kW W u) (t:Int) (p:Nat):∀(q:List AO) (a:List Int),a.length=W→(∀l∈q,l.K.length=W)→((q.filter λl=>decide (l.Ao≤t)&&decide (l.B=(p:Int))).foldl (λa l=>GA a l.K) a).length=W∧u ((q.filter λl=>decide (l.Ao≤t)&&decide (l.B=(p:Int))).foldl (λa l=>GA a l.K) a)+X1 u p (JG t q)=u a+X1 u p q
 |[],a,b,_=>⟨b,rfl⟩
 |l::q,a,b,m=>by
  have n:=m l (.head _);have i:∀x∈q,x.K.length=W:=λx s=>m x (.tail _ s);rw[X0];by_cases o:l.Ao≤t
  ·have j:JG t (l::q)=JG t q:=by
    unfold JG;rw[Adz (by simp;omega)]
   rw[j];by_cases g:l.B=(p:Int)
   ·rw[Ad4 (by simp [o,g]),List.foldl_cons,Aab g];obtain⟨c,k⟩:=VF d t p q (GA a l.K) (Ki b n) i;exact⟨c,by rw[k,d.add b n];omega⟩
   ·rw[Adz (by simp [g]),zY g];obtain⟨c,k⟩:=VF d t p q a b i;exact⟨c,by omega⟩
  ·have j:JG t (l::q)=l::JG t q:=by
    unfold JG;rw[Ad4 (by simp;omega)]
   rw[j,X0,Adz (by simp [o])];obtain⟨c,k⟩:=VF d t p q a b i;exact⟨c,by omega⟩
def cE {b:AE}{H:Int}{W:Nat}{C:List Int→Int}(u:kW W C) (p:Nat):∀{l:List AI}{w:List (List Int)},Ie b.A.length W w→Q4 l w→(∀m∈l,∃p,p<b.A.length∧wQ b H W p m)→C ((QA w l).getD p [])+VZ C p l=C (w.getD p [])
 |[],w,_,_,_=>by show C (w.getD p [])+0=_;omega
 |m::l,w,v,z,y=>by
  obtain⟨⟨x,k,n⟩,d⟩:=z;obtain⟨q,B,o⟩:=y m (.head _);have g:=v.all x (Abf k);have i:=n.sub g;have a:w.getD m.D.toNat []=x:=by rw[Aa5,k];rfl
  rw[a] at d;have j:=cE u p (l:=l) (w:=upd w m.D (IE x m.K)) (v.upd _ i.1) d λm s=>y m (.tail _ s);rw[show QA w (m::l)=QA (upd w m.D (IE (w.getD m.D.toNat []) m.K)) l from rfl,a,WC];have t:=o.fr;have c:=(Aai.1 k).1;have e:(upd w m.D (IE x m.K)).getD p []=if m.D=(p:Int) then IE x m.K else w.getD p []:=by
   rw[t] at c ⊢;rw[Abh] at c;rw[Aa5,Aa5];by_cases e:q=p
   ·subst e;rw[Aab rfl,GY c];rfl
   ·rw[zY (by omega),IY e]
  rw[e] at j;by_cases F:m.D=(p:Int)
  ·rw[Aab F] at j ⊢;have:w.getD p []=x:=by rw[←a,F,Abh]
   rw[this];rw[u.sub g.len i.2.2.len] at j;omega
  ·rw[zY F] at j ⊢;omega
def Xq (a:List Int→Int) (b:AE) (H:Int) (p:Nat):∀(l:List AI),X1 a p (l.filterMap (Kl b H))=VY a p l
 |[]=>rfl
 |m::l=>by
  rw[WA,←Xq a b H p l];by_cases c:m.B<0
  ·rw[List.filterMap_cons_none (by unfold Kl;rw[Aab c]),zY (by omega)];omega
  ·rw[List.filterMap_cons_some (b:=(⟨A9 (A9 (H+1)+Pr b m.D.toNat m.Ap),m.B,m.K⟩:AO)) (by unfold Kl;rw[zY c]),X0]
def Xw {W:Nat}{k:List Int→Int}(b:kW W k) (H:Int) (p:Nat):∀(l:List Int) (i:Nat),(∀n∈l,0≤n)→VY k p (Tm H W i l)=if i≤p then k (v1 W (l.getD (p-i) 0)) else 0
 |[],i,_=>by
  show(0:Int)=_
  split
  ·show _=k (v1 W 0);rw[PW,b.zero]
  ·rfl
 |a::l,i,m=>by
  have j:=m a (.head _);rw[Tm,Pa,Xw b H p l (i+1) λn g=>m n (.tail _ g)];have e:VY k p (if 0<a then [(⟨H, -1,(i:Int), -4,v1 W a⟩:AI)] else [])=if i=p then k (v1 W a) else 0:=by
   by_cases h0:0<a
   ·rw[Aab h0,WA];show(if (i:Int)=(p:Int) then k (v1 W a) else 0)+0=_
    by_cases e:i=p
    ·rw[Aab e,Aab (by omega)];omega
    ·rw[zY e,zY (by omega)];rfl
   ·rw[zY h0];show(0:Int)=_
    split
    ·rw[show a=0 by omega,PW,b.zero]
    ·rfl
  rw[e];by_cases c:i=p
  ·subst c;rw[Aab rfl,zY (by omega),Aab (Aal _),Nat.sub_self];show _=k (v1 W a)
   omega
  ·rw[zY c];by_cases d:i≤p
   ·rw[Aab (by omega),Aab d,show p-i=(p-(i+1))+1 by omega,List.getD_cons_succ];omega
   ·rw[zY (by omega),zY d];rfl
def Xy {W:Nat}{o:List Int→Int}(b:kW W o) (c:1≤W) (H:Int):∀(l:List Int) (i:Nat),(∀n∈l,0≤n)→VZ o (-1) (Tm H W i l)=o (v1 W l.sum)∧(∀p:Nat,VZ o p (Tm H W i l)=0)∧VY o (-1) (Tm H W i l)=0
 |[],i,_=>⟨by show(0:Int)=o (v1 W 0);rw[PW,b.zero],λ_=>rfl,rfl⟩
 |a::l,i,q=>by
  have m:=q a (.head _);obtain⟨g,d,j⟩:=Xy b c H l (i+1) λn k=>q n (.tail _ k);rw[Tm,N0,Pa,g,j,Aba,←aC c,b.add (Lw _ _) (Lw _ _)];by_cases h0:0<a
  ·rw[Aab h0];refine⟨?_,λp=>?_,?_⟩
   ·rw[WC,Aab rfl];show o (v1 W a)+(0:Int)+_=_
    omega
   ·rw[N0,d,WC,zY (by show ¬(-1:Int)=(p:Int);omega)];rfl
   ·rw[WA,zY (by show ¬(i:Int)= -1;omega)];rfl
  ·rw[zY h0,show a=0 by omega,PW,b.zero];exact⟨by show(0:Int)+_=_;omega,λp=>by rw[N0,d];rfl,rfl⟩
def W8 {N W:Nat}(d:1000000<N) (i:W≤1000) {t:List Int→Int}(g:kW W t):∀{l:List AI}{out:List Int},(∀m∈l,PX W m.K∧ -1≤m.B)→out.length=W→(∀x∈out,0≤x)→out.sum+KT l≤2305843009213693952→t (RY N out l)=t out+VY t (-1) l
 |[],out,_,b,h0,_=>by show t out=t out+0;omega
 |m::l,out,c,b,h0,k=>by
  obtain⟨a,n⟩:=c m (.head _);have o:=U0 (W:=W) (l:=l) λm a=>(c m (.tail _ a)).1;have p:KT (m::l)=m.K.sum+KT l:=by unfold KT;rw[Aaz,Aba]
  rw[p] at k;have q:=a.sum0;rw[show RY N out (m::l)=RY N (if m.B<0 then (Gg N out m.K).getD [] else out) l from rfl,WA];by_cases u:m.B<0
  ·rw[Aab u,Uv d (by omega) (by rw[a.len,b]) (λx j=>by have:=Hw h0 x j;have:=h0 x j;omega) a.bd,Abu,Aab (by omega)];have s:(GA out m.K).sum=out.sum+m.K.sum:=JE (b.trans a.len.symm);rw[W8 d i g (l:=l) (out:=GA out m.K) (λm a=>c m (.tail _ a)) (Ki b a.len) (PV h0 a.nn) (by omega),g.add b a.len];omega
  ·rw[zY u,zY (by omega),W8 d i g (l:=l) (λm a=>c m (.tail _ a)) b h0 (by omega)];omega
def tE (a:List Int→Int) (p:Nat) (s:AF):Int:=a (s.E.getD p [])+X1 a p s.H
structure T0 (P:Nat) (φ:List Int→Int) (s:AF) (ms:List AI) (t:AF):Prop where
 at_:∀p,p<P→tE φ p t=tE φ p s+VY φ p ms-VZ φ p ms
 inn:φ t.N=φ s.N+VZ φ (-1) ms
 out:φ t.L=φ s.L+VY φ (-1) ms
def T0.nil (P:Nat) (a:List Int→Int) (s:AF):T0 P a s [] s:=⟨λp _=>by show _=_+0-0;omega,by show _=_+0;omega,by show _=_+0;omega⟩
def T0.app {P:Nat}{d:List Int→Int}{s t u:AF}{a c:List AI}(g:T0 P d s a t) (k:T0 P d t c u):T0 P d s (a++c) u:=
 ⟨λp b=>by rw[k.at_ p b,g.at_ p b,Pa,N0];omega,by rw[k.inn,g.inn,N0];omega,by rw[k.out,g.out,Pa];omega⟩
def cG {N:Nat}(hN:18446744073709551616<N) {b:AE}(Q:Xc b) {φ:List Int→Int}(d:kW b.I.length φ) {s:AF}{Z:List HV}{v:List (List Int)}(w:Va b s) (x1:Ie b.A.length b.I.length v) (hO:∀p,p<b.A.length→φ (v.getD p [])=φ (s.E.getD p [])) {y:AF×List AI×List Int}{i:List Int}{U:List (List Int)}{l:List AI}(h:Wf N b s Z v y i U l):T0 b.A.length φ s y.2.1 y.1:=by
 have hW:=Q.r.head.own;have z:=Q.r.head.own1;have j:=w.rg.x;have c:=h.lv;have F:∀l∈s.H,l.K.length=b.I.length:=λl n=>(j.que l n).1.len;obtain⟨r1,r2,r3⟩:=Xy d z s.C i 0 h.n0;have G:VZ φ (-1) l=0:=by
  have:∀l:List AI,(∀m∈l,m.D≠ -1)→VZ φ (-1) l=0:=λl n=>by
   induction l with
   |nil=>rfl
   |cons m l ih=>rw[WC,zY (n m (.head _)),ih λm o=>n m (.tail _ o)];rfl
  exact this l λm o=>by obtain⟨p,_,g⟩:=c.mv m o;have:=g.fr;omega
 refine⟨λp g=>?_,?_,?_⟩
 ·obtain⟨x,_,q,t⟩:=x1.ix g;have u:p<i.length:=by rw[h.nl];exact g
  have V:=h.at3 p x _ q (Aao u);have g1:U.getD p []=GA (GA x (v1 b.I.length i[p])) (Q3 b.I.length s.C s.H p):=by rw[Aa5,V];rfl
  have g2:v.getD p []=x:=by rw[Aa5,q];rfl
  have g3:i.getD p 0=i[p]:=by simp [Aa5,u]
  obtain⟨W,X⟩:=VF d s.C p s.H (List.replicate b.I.length 0) Adb F;have a3:(s.H.filter λl=>decide (l.Ao≤s.C)&&decide (l.B=(p:Int))).foldl (λa l=>GA a l.K) (List.replicate b.I.length 0)=Q3 b.I.length s.C s.H p:=rfl;rw[a3] at W X;rw[d.zero] at X;have e1:=cE d p h.ox3 c.val c.mv;rw[←c.own,g1,d.add (Ki t.len (Lw _ _)) W,d.add t.len (Lw _ _)] at e1;have e2:=hO p g;rw[g2] at e2;have Y:=Xw d s.C p i 0 h.n0;rw[Aab (Aad _),Nat.sub_zero,g3] at Y;have e4:=Xq φ b s.C p l;unfold tE;rw[c.ms_,Pa,N0,r2 p,Y,h.que,iH,e4];omega
 ·rw[h.inn,d.add j.inn (Lw _ _),c.ms_,N0,r1,G];omega
 ·have V:=h.os3;have h4:=w.rg.outs;have h5:=j.inns;have ht:=c.tot;have aa:=c.ox.sum0;have ab:=j.own.sum0;have J:=(GZ j.que 0).2;rw[Abv,show GX ([]:List AO)=0 from rfl] at J;have k:QX b.A.length b.I.length (JG s.C s.H):=λl n=>j.que l (Abp.1 n).1;have M:=(GZ k 0).2;rw[Abv,show GX ([]:List AO)=0 from rfl] at M;rw[c.out_,W8 (N:=N) (by omega) (by omega) d (λm o=>by obtain⟨p,_,g⟩:=c.mv m o;have:=g.to;exact⟨g.px,by omega⟩) j.out w.rg.out0 (by omega),c.ms_,Pa,r3];omega
def Sd.keep {N:Nat}(g:18446744073709551616<N) {b:AE}(i:Xc b) {s t:AF}{l:List Cs}{ss:List AF}{ms:List AI}{ps:List (List Int)}(w:Sd N b s l ss ms ps t):T0 b.A.length List.sum s ms t:=by
 induction w with
 |nil s=>exact .nil _ _ _
 |cons o c j=>
  obtain⟨k,u,v,l,_,a,m,w,_,_⟩:=o.ex;refine(cG g i (iP _) o.rg0 a (λp d=>?_) w).app j;have:=zW (λz:List Int=>z.getD p 0) m;simp only[Aa5,Ab7] at this ⊢;have n:p<k.length:=by rw[a.len];exact d
  have q:=o.rg0.rg.x.own.len;rw[Aao n,Aao (by rw[q];exact d)] at this ⊢;exact this
structure zO (b:AE) (m:AI):Prop where
 px:PX b.I.length m.K
 pos:0<m.K.sum
 fr:m.D= -1∨(0≤m.D∧m.D<b.A.length)
 to:m.B= -1∨(0≤m.B∧m.B<b.A.length)
 ne:m.D= -1→m.B≠ -1
def W3 {H:Int}{W:Nat}:∀{l:List Int}{i:Nat}{m:AI},m∈Tm H W i l→m.D= -1∧(i:Int)≤m.B∧m.B<((i+l.length:Nat):Int)
 |[],_,m,g=>by cases g
 |a::l,i,m,g=>by
  rw[Tm] at g;rcases Aa0.1 g with g|g
  ·split at g
   ·rw[Abi.1 g];exact⟨rfl,Aa6 _,by simp;omega⟩
   ·cases g
  ·obtain⟨b,c,d⟩:=W3 g;exact⟨b,by omega,by rw[Abm];omega⟩
def Sd.mvk {N:Nat}{b:AE}(D:II b) {s t:AF}{l:List Cs}{ss:List AF}{ms:List AI}{ps:List (List Int)}(h:Sd N b s l ss ms ps t):∀m∈ms,zO b m:=by
 have d:=D.own1
 induction h with
 |nil s=>intro m a;cases a
 | @cons s i y Y ss ms ps t o c F=>
  intro m a;rcases Aa0.1 a with a|a
  ·obtain⟨Z,G,o3,l,_,J,_,h,_,_⟩:=o.ex;have M:=o.rg0.rg.x;have u:∀n∈G,0≤n∧n≤1125899906842624:=λn A=>by
    refine⟨h.n0 n A,?_⟩;obtain⟨i,B⟩:=Ab3.1 A;have v:=(Aai.1 B).1;obtain⟨x,_,w,g⟩:=J.ix (k:=i) (by rw[←h.nl];exact v);have z:=h.at3 i x n w B;have Q:=(h.ox3.all _ (Abf z)).mv;have j:=YT M.que (t:=s.C) (p:=i) s.H.length (Aal _);rw[Aa9] at j;rw[JE (by rw[Ki g.len (Lw _ _),j.1]),JE (by rw[g.len,Lw]),RJ d] at Q;have:=g.sum0;have:=Jz j.2;omega
   rw[h.lv.ms_] at a;rcases Aa0.1 a with a|a
   ·obtain⟨U,k2,k3⟩:=W3 a;obtain⟨k,n,V,W,z⟩:=Xs a;have X:=h.nl;have e:m.K=v1 b.I.length n:=by rw[z]
    exact⟨by rw[e];exact aB d (by omega) (u n V).2,by rw[e,RJ d];exact W,.inl U,.inr ⟨by omega,by omega⟩,λ_=>by omega⟩
   ·obtain⟨p,hp,q⟩:=h.lv.mv m a;have:=q.fr;exact⟨q.px,q.pos,.inr ⟨by omega,by omega⟩,q.to,λ_=>by omega⟩
  ·exact F m a
def sm (f:Nat→Int):Nat→Int
 |0=>0
 |n+1=>sm f n+f n
def Ol {f g:Nat→Int}:∀{n:Nat},(∀i,i<n→f i=g i)→sm f n=sm g n
 |0,_=>rfl
 |n+1,b=>by rw[sm,sm,Ol λi a=>b i (by omega),b n (by omega)]
def bG (f g:Nat→Int):∀n,sm (λi=>f i+g i) n=sm f n+sm g n
 |0=>rfl
 |n+1=>by rw[sm,sm,sm,bG f g n];omega
def Xo:∀n,sm (λ_=>0) n=0
 |0=>rfl
 |n+1=>by rw[sm,Xo n];rfl
def bF {j:Nat}(c:Int):∀n,sm (λi=>if i=j then c else 0) n=if j<n then c else 0
 |0=>by rw[zY (by omega)];rfl
 |n+1=>by
  rw[sm,bF c n];by_cases b:n=j
  ·rw[Aab b,zY (by omega),Aab (by omega)];omega
  ·rw[zY b];by_cases a:j<n
   ·rw[Aab a,Aab (by omega)];omega
   ·rw[zY a,zY (by omega)];omega
def Jk (b:AE) (p:Int):Int:=(b.A.getD p.toNat default).Ac
def NX (b:AE) (o to:Int):Prop:=(to= -1∧o=2)∨(0≤to∧to<b.A.length∧(Jk b to=o∨Jk b to=o+1))
structure Nj (b:AE):Prop where
 off:∀p∈b.A,0≤p.Ac∧p.Ac≤2
 down:∀p∈b.A,NX b p.Ac p.Ak
 lks:∀l∈b.F,(0≤l.D∧l.D<b.A.length)∧NX b (Jk b l.D) l.B∧(l.G=4→Jk b l.B=Jk b l.D)
def QB {b:AE}{i:Int}{x:Dw}(c:ix b.A i=some x):0≤i∧i<b.A.length∧Jk b i=x.Ac:=by
 obtain⟨h0,a⟩:=Dy c;have:=(Aai.1 a).1;exact⟨h0,by omega,by unfold Jk;rw[Aa5,a];rfl⟩
def V9 {N:Nat}{b:AE}{o to:Int}(g:0≤o∧o≤2) (j:IW N b o to=some true):NX b o to:=by
 unfold IW at j;cases c:decide (to= -1)<;>rw[c] at j
 ·obtain⟨x,a,j⟩:=bd j;obtain⟨h0,d,i⟩:=QB a;have j:=zZ j;rw[C7 (n:=o+1) (by omega) (by omega)] at j;simp only[Aay,Aam] at j;exact .inr ⟨h0,d,by omega⟩
 ·have j:=zZ j;exact .inl ⟨Ab8 c,Ab8 j⟩
def gR {c d:Bool}{y:Option Bool}(e:cond c (some true) y=some d) (hd:d=false):c=false∧y=some false:=by
 subst hd;cases c
 ·exact⟨rfl,e⟩
 ·cases e
def TF {N:Nat}{b:AE}(M:b.A.length≤64):∀(n:Nat) (s:Int) (k:Nat),k≤b.A.length→BH N b (BS N) n s (k:Int)=some true→∀p∈b.A.drop k,0≤p.Ac∧p.Ac≤2
 |0,_,_,_,h=>by cases h
 |n+1,s,k,hk,h=>by
  simp only[BH] at h;rcases Aar k b.A.length with l|l
  ·rw[Ef l,zV,BM l,zU] at h;obtain⟨Q,_,h⟩:=bd h;obtain⟨U,u,h⟩:=bd h;obtain⟨V,w,h⟩:=bd h;obtain⟨W,y,h⟩:=bd h;obtain⟨X,z,h⟩:=bd h;obtain⟨Y,B,h⟩:=bd h;obtain⟨Z,C,h⟩:=bd h;obtain⟨o,D,h⟩:=bd h;have q:o=false:=by
    cases o
    ·rfl
    ·cases h
   have F:=(gR D q).1;have d:=(gR C F).1;rw[Aa2] at d;have d:=d.1;have G:=(gR B d).1;have H:=(gR z G).1;have I:=(gR y H).1;have J:=(gR w I).1;have g:=(gR u J).2;rw[NA,zU] at g;have g:=zZ g;rw[Ach,Zp,Aaa,Aam,Aam] at g;rw[q,zX] at h;rw[Acz l];have K:∃s',BH N b (BS N) n s' ((k+1:Nat):Int)=some true:=by
    have l5:∀(s':Int) (j:Nat) (a i:Int),Cj N b b.A[k] s' (B9 N (k:Int) (BH N b (BS N) n)) j a i=some true→∃s',BH N b (BS N) n s' ((k+1:Nat):Int)=some true:=by
     intro s' j
     induction j with
     |zero=>intro a i h;cases h
     |succ j t=>
      intro a i h;simp only[Cj] at h;cases c:decide (i<((b.A[k]).Aa.length:Int))<;>rw[c] at h
      ·rw[zX,B9,BK (by omega)] at h;exact⟨_,h⟩
      ·rw[zV] at h;obtain⟨x,_,h⟩:=bd h;obtain⟨v,_,h⟩:=bd h;cases v
       ·exact t _ _ h
       ·cases h
    have l4:∀(j:Nat) (s' i:Int),Ck N b.A[k] (Dd N b b.A[k] (B9 N (k:Int) (BH N b (BS N) n))) j s' i=some true→∃s',BH N b (BS N) n s' ((k+1:Nat):Int)=some true:=by
     intro j
     induction j with
     |zero=>intro s' i h;cases h
     |succ j t=>
      intro s' i h;simp only[Ck] at h;cases c:decide (i<((b.A[k]).Be.length:Int))<;>rw[c] at h
      ·exact l5 _ _ _ _ h
      ·rw[zV] at h;obtain⟨x,_,h⟩:=bd h;obtain⟨v,_,h⟩:=bd h;cases v
       ·cases h
       ·exact t _ _ h
    exact l4 _ _ _ h
   obtain⟨s',h'⟩:=K;have t:=TF M n s' (k+1) l h';intro p m;rcases Aae.1 m with rfl|m
   ·exact g
   ·exact t p m
  ·intro p m;rw[Acj l] at m;cases m
def cH {N:Nat}{b:AE}(X:b.A.length≤64) (Y:b.F.length≤1000) (v:∀p∈b.A,0≤p.Ac∧p.Ac≤2) (Z:GT N b=some true):Nj b:=by
 have K:∀(n k:Nat),k≤b.F.length→Co N b (Du N) n (k:Int)=some true→∀l∈b.F.drop k,(0≤l.D∧l.D<b.A.length)∧NX b (Jk b l.D) l.B∧(l.G=4→Jk b l.B=Jk b l.D):=by
  intro n
  induction n with
  |zero=>intro k _ Z;cases Z
  |succ n q=>
   intro k M Z;simp only[Co] at Z;rcases Aar k b.F.length with a|a
   ·rw[Ef a,zV,BM a,zU,BK (by omega)] at Z;obtain⟨C,d,Z⟩:=bd Z;obtain⟨g,i,Z⟩:=bd Z;obtain⟨j,s,Z⟩:=bd Z;have f:j=false:=by
     cases j
     ·rfl
     ·cases Z
    obtain⟨w,u⟩:=gR s f;rw[f,zX] at Z;have w:g=true:=by cases g<;>first|rfl|cases w
    rw[w] at i;obtain⟨Q,U,H⟩:=QB d;have q:=q (k+1) a Z;rw[Acz a];intro l m;rcases Aae.1 m with rfl|m
    ·refine⟨⟨Q,U⟩,by rw[H];exact V9 (v _ (Abf (Dy d).2)) i,λV=>?_⟩;rw[Aaq V,zV] at u;obtain⟨I,c,u⟩:=bd u;obtain⟨J,t,c⟩:=bd c;cases u;have:=Adi (zZ c);rw[H,(QB t).2.2];omega
    ·exact q l m
   ·intro l m;rw[Acj a] at m;cases m
 have l1:∀(n k:Nat),k≤b.A.length→Cp N b (Cq N b) n (k:Int)=some true→(∀p∈b.A.drop k,NX b p.Ac p.Ak)∧Cq N b=some true:=by
  intro n
  induction n with
  |zero=>intro k _ Z;cases Z
  |succ n q=>
   intro k M Z;simp only[Cp] at Z;rcases Aar k b.A.length with a|a
   ·rw[Ef a,zV,BM a,zU,BK (by omega)] at Z;obtain⟨y,W,Z⟩:=bd Z;cases y
    ·cases Z
    ·obtain⟨x,z⟩:=q (k+1) a Z;refine⟨?_,z⟩;rw[Acz a];intro p o;rcases Aae.1 o with rfl|o
     ·exact V9 (v _ (Aap a)) W
     ·exact x p o
   ·rw[E5 a,zX] at Z;refine⟨λp o=>?_,Z⟩;rw[Acj a] at o;cases o
 obtain⟨x,z⟩:=l1 N 0 (Aad _) Z;exact⟨v,x,K N 0 (Aad _) z⟩
def eV {N:Nat}{b:AE}(B:b.A.length≤64) (C:b.F.length≤1000) (X:Fm N b=some true):Nj b:=by
 unfold Fm at X;obtain⟨W,_,X⟩:=bd X;obtain⟨D,G,X⟩:=bd X;obtain⟨H,i,X⟩:=bd X;obtain⟨I,j,X⟩:=bd X;obtain⟨J,k,X⟩:=bd X;obtain⟨K,l,X⟩:=bd X;obtain⟨M,m,X⟩:=bd X;obtain⟨Q,n,X⟩:=bd X;obtain⟨U,o,X⟩:=bd X;have a:∀{c:Bool} {x:Option Bool} {d:Bool},cond c (x.bind λy=>some y) (some false)=some d→d=true→c=true∧x=some true:=by
  intro c x d q hd;subst hd;cases c
  ·cases q
  ·cases x with
   |none=>cases q
   |some y=>exact⟨rfl,q⟩
 have s:=zZ X;have t:=a o s;have u:=a n t.1;have v:=a m u.1;have w:=a l v.1;have g:=a k w.1;have z:=a j g.1;exact cH B C (λp V=>TF B N 0 0 (Aad _) (a i z.1).2 p V) g.2
def R8 (b:AE) (m:AI):Prop:=m.Ap= -4∨(m.Ap= -3∧(m.B= -1∨Jk b m.B=Jk b m.D))∨(m.Ap≠ -3∧NX b (Jk b m.D) m.B)
def lD (b:AE) (p:Int) (e:AD):Prop:=(e.way= -3∧(e.to_= -1∨Jk b e.to_=Jk b p))∨(e.way≠ -3∧NX b (Jk b p) e.to_)
def R8.snoc {b:AE}{l:List AI}(d:∀m∈l,R8 b m) {H p:Int}{e:AD}(c:lD b p e) (x:List Int):∀m∈l++([(⟨H,p,e.to_,e.way,x⟩:AI)]:List AI),R8 b m:=λm a=>by
 rcases Aa0.1 a with a|a
 ·exact d m a
 ·rw[Abi.1 a];exact .inr c
def XD {N:Nat}{b:AE}{w:AL}{p:Int}{e:AD}(a:∀m∈w.moves,R8 b m) (d:lD b p e) {r:List (List Int)×List Int×List AI×List AO}(i:E8 N w p e=some r):∀m∈r.2.2.1,R8 b m:=by
 unfold E8 at i;obtain⟨_,_,i⟩:=bd i;obtain⟨_,_,i⟩:=bd i;obtain⟨y,_,i⟩:=bd i;obtain⟨_,_,i⟩:=bd i;obtain⟨_,_,i⟩:=bd i;obtain⟨t,_,i⟩:=bd i;cases c:decide (t≤0)<;>rw[c] at i
 ·rw[zX] at i;have i:=(KM i).2;cases g:decide (e.to_= -1)<;>rw[g] at i
  ·obtain⟨_,_,i⟩:=bd i;have i:=(KM i).2;cases i;exact R8.snoc a d _
  ·obtain⟨_,_,i⟩:=bd i;cases i;exact R8.snoc a d _
 ·cases i;exact a
def ST {N:Nat}{w:AL}{p:Int}:∀(n:Nat) (l:List AD) (i:Int) (r:List AD),(∀e∈l,lD w.b p e)→B5 N w p (Cu N) n l i=some r→∀e∈r,lD w.b p e
 |0,_,_,_,_,A=>by cases A
 |n+1,l,i,r,j,A=>by
  simp only[B5,Ej] at A;cases c:decide (i<(w.in_.Z.length:Int))<;>rw[c] at A
  ·cases A;exact j
  ·rw[zV] at A;obtain⟨t,_,A⟩:=bd A;obtain⟨k,_,A⟩:=bd A;cases u:(k||decide (t.Bb≤0))<;>rw[u] at A
   ·rw[zX] at A;obtain⟨m,a,A⟩:=bd A;cases m
    ·rw[zX] at A;have A:=(KM A).2;refine ST n _ _ r (λe g=>?_) A;rcases Aa0.1 g with g|g
     ·exact j e g
     ·rw[Abi.1 g];refine .inl ⟨rfl,?_⟩;show t.B= -1∨Jk w.b t.B=Jk w.b p
      cases s:decide (t.B≠ -1)<;>rw[s] at a
      ·exact .inl (by have:=Adi s;omega)
      ·rw[zV] at a;obtain⟨v,_,a⟩:=bd a;obtain⟨x,d,a⟩:=bd a;cases a;have d:=(gR d rfl).2;obtain⟨y,o,d⟩:=bd d;obtain⟨z,q,d⟩:=bd d;have:=Adi (zZ d);rw[(QB o).2.2,(QB q).2.2];exact .inr (by omega)
    ·exact ST n _ _ r j A
   ·exact ST n _ _ r j A
def Qv {N:Nat}{w:AL}(j:Nj w.b) (t:w.b.F.length≤1000) {p:Int}:∀(n:Nat) (l:List AD) (k:Nat) (r:List AD),k≤w.b.F.length→(∀e∈l,lD w.b p e)→BR N w p (CN N) n l (k:Int)=some r→∀e∈r,lD w.b p e
 |0,_,_,_,_,_,Y=>by cases Y
 |n+1,l,k,r,W,v,Y=>by
  simp only[BR,Cx,Ek] at Y;rcases Aar k w.b.F.length with c|c
  ·rw[Ef c,zV,BM c,zU,BK (by omega)] at Y;obtain⟨⟨I,J⟩,y,K⟩:=j.lks _ (Aap c);generalize w.b.F[k]=x at Y y K I J
   have a:∀(to d:Int) (f:List Int→Option (List Int×List Int)),NX w.b (Jk w.b p) to→∀e∈l++([(⟨to,d,(k:Int),f⟩:AD)]:List AD),lD w.b p e:=λto d f M e m=>by
    rcases Aa0.1 m with m|m
    ·exact v e m
    ·rw[Abi.1 m];exact .inr ⟨by show(k:Int)≠ -3;omega,M⟩
   cases z:(decide (x.D=p)&&decide (x.G≠4))<;>rw[z] at Y
   ·rw[zX] at Y;cases g:decide (x.D=p)<;>rw[g] at Y
    ·rw[zX] at Y;cases u:(decide (x.B=p)&&decide (x.G=4))<;>rw[u] at Y
     ·exact Qv j t n _ (k+1) r c v Y
     ·rw[zV] at Y;rw[Aaa,Aam,Aam] at u;obtain⟨_,X,Y⟩:=bd Y;obtain⟨_,_,Y⟩:=bd Y;obtain⟨_,_,Y⟩:=bd Y;obtain⟨_,_,Y⟩:=bd Y;obtain⟨_,_,Y⟩:=bd Y;obtain⟨_,_,Y⟩:=bd Y;obtain⟨_,_,Y⟩:=bd Y;have Y:=(KM Y).2;exact Qv j t n _ (k+1) r c (a x.D _ _ (.inr ⟨I,J,.inl (by rw[←u.1,K u.2])⟩)) Y
    ·rw[zV] at Y;have g:=Ab8 g;obtain⟨_,_,Y⟩:=bd Y;obtain⟨_,_,Y⟩:=bd Y;obtain⟨_,_,Y⟩:=bd Y;obtain⟨_,_,Y⟩:=bd Y;obtain⟨_,_,Y⟩:=bd Y;obtain⟨_,_,Y⟩:=bd Y;have Y:=(KM Y).2;exact Qv j t n _ (k+1) r c (a x.B _ _ (by rw[←g];exact y)) Y
   ·rw[zV] at Y;rw[Aaa,Aam] at z;have o:∀i,((ix w.s.O (k:Int)).bind λU=>(ix w.s.O (k:Int)).bind λA=>(ix w.peaks p).bind λV=>(ix w.peaks p).bind λC=>(LN N x A C i).bind λH=>(Ga N H).bind λq=>chk (I2 (l.length+([(⟨x.B,x.Q,(k:Int),(λx=>AM N q x)⟩:AD)]:List AD).length) 32) <| BR N w p (CN N) n (l++([(⟨x.B,x.Q,(k:Int),(λx=>AM N q x)⟩:AD)]:List AD)) ((k+1:Nat):Int))=some r→∀e∈r,lD w.b p e:=λi Y=>by
     obtain⟨_,_,Y⟩:=bd Y;obtain⟨_,_,Y⟩:=bd Y;obtain⟨_,_,Y⟩:=bd Y;obtain⟨_,_,Y⟩:=bd Y;obtain⟨_,_,Y⟩:=bd Y;obtain⟨_,_,Y⟩:=bd Y;have Y:=(KM Y).2;exact Qv j t n _ (k+1) r c (a x.B _ _ (by rw[←z.1];exact y)) Y
    cases g:decide (x.B≠ -1)<;>rw[g] at Y
    ·exact o _ Y
    ·rw[zV] at Y;obtain⟨_,_,Y⟩:=bd Y;obtain⟨_,_,Y⟩:=bd Y;exact o _ Y
  ·rw[E5 c,zX] at Y;cases Y;exact v
def Ri {N:Nat}{w:AL}(g:w.b.F.length≤1000) {p:Int}:∀(n:Nat) (l:List AD) (k:Nat) (r:List AD),k≤w.b.F.length→BR N w p (CN N) n l (k:Int)=some r→r.length+k≤l.length+w.b.F.length
 |0,_,_,_,_,q=>by cases q
 |n+1,l,k,r,m,q=>by
  simp only[BR,Cx,Ek] at q;rcases Aar k w.b.F.length with a|a
  ·rw[Ef a,zV,BM a,zU,BK (by omega)] at q;generalize w.b.F[k]=x at q
   have c:∀e:AD,BR N w p (CN N) n (l++([e]:List AD)) ((k+1:Nat):Int)=some r→r.length+k≤l.length+w.b.F.length:=λe q=>by
    have:=Ri g n _ (k+1) r a q;rw[Aas,List.length_singleton] at this;omega
   cases i:(decide (x.D=p)&&decide (x.G≠4))<;>rw[i] at q
   ·rw[zX] at q;cases d:decide (x.D=p)<;>rw[d] at q
    ·rw[zX] at q;cases j:(decide (x.B=p)&&decide (x.G=4))<;>rw[j] at q
     ·have:=Ri g n _ (k+1) r a q;omega
     ·rw[zV] at q;obtain⟨_,o,q⟩:=bd q;obtain⟨_,_,q⟩:=bd q;obtain⟨_,_,q⟩:=bd q;obtain⟨_,_,q⟩:=bd q;obtain⟨_,_,q⟩:=bd q;obtain⟨_,_,q⟩:=bd q;obtain⟨_,_,q⟩:=bd q;exact c _ (KM q).2
    ·rw[zV] at q;obtain⟨_,_,q⟩:=bd q;obtain⟨_,_,q⟩:=bd q;obtain⟨_,_,q⟩:=bd q;obtain⟨_,_,q⟩:=bd q;obtain⟨_,_,q⟩:=bd q;obtain⟨_,_,q⟩:=bd q;exact c _ (KM q).2
   ·rw[zV] at q;cases d:decide (x.B≠ -1)<;>rw[d] at q
    ·rw[zX] at q;obtain⟨_,_,q⟩:=bd q;obtain⟨_,_,q⟩:=bd q;obtain⟨_,_,q⟩:=bd q;obtain⟨_,_,q⟩:=bd q;obtain⟨_,_,q⟩:=bd q;obtain⟨_,_,q⟩:=bd q;exact c _ (KM q).2
    ·rw[zV] at q;obtain⟨_,_,q⟩:=bd q;obtain⟨_,_,q⟩:=bd q;obtain⟨_,_,q⟩:=bd q;obtain⟨_,_,q⟩:=bd q;obtain⟨_,_,q⟩:=bd q;obtain⟨_,_,q⟩:=bd q;obtain⟨_,_,q⟩:=bd q;obtain⟨_,_,q⟩:=bd q;exact c _ (KM q).2
  ·rw[E5 a,zX] at q;cases q;omega
def WK {N:Nat}{w:AL}{p:Int}{g:List AD}(a:∀e∈g,lD w.b p e) {kj:List (List Int)→List Int→List AI→List AO→Option (List (List Int)×List Int×List Int×List AI×List AO)}(j:∀o out ms d r,(∀m∈ms,R8 w.b m)→kj o out ms d=some r→∀m∈r.2.2.2.1,R8 w.b m):∀(n:Nat) (i:Int) o out ms d r,(∀m∈ms,R8 w.b m)→CY N w p g kj n i o out ms d=some r→∀m∈r.2.2.2.1,R8 w.b m
 |0,_,_,_,_,_,_,_,t=>by cases t
 |n+1,i,o,out,ms,d,r,k,t=>by
  simp only[CY] at t;cases c:decide (i<(g.length:Int))<;>rw[c] at t
  ·exact j _ _ _ _ _ k t
  ·rw[zV] at t;obtain⟨x,_,t⟩:=bd t;obtain⟨e,l,t⟩:=bd t;obtain⟨y,q,t⟩:=bd t;exact WK a j n _ _ _ _ _ _ (XD (b:=w.b) (w:=(⟨w.b,w.in_,(⟨w.s.C,o,w.s.M,w.s.H,w.s.O,w.s.N,out⟩:AF),ms,w.peaks,d⟩:AL)) k (a e (Abf (Dy l).2)) q) t
def WI {N:Nat}{w:AL}{p:Int}{a:Dw}(hd:NX w.b (Jk w.b p) a.Ak) {o:List (List Int)}{out:List Int}{ms:List AI}{d:List AO}{rem:List Int}{r:List (List Int)×List Int×List Int×List AI×List AO}(g:∀m∈ms,R8 w.b m) (j:CC N w p a o out ms d rem=some r):∀m∈r.2.2.2.1,R8 w.b m:=by
 unfold CC at j;obtain⟨_,_,j⟩:=bd j;obtain⟨x,_,j⟩:=bd j;obtain⟨t,_,j⟩:=bd j;cases c:decide (0<A9 (t-a.Av))<;>rw[c] at j
 ·cases j;exact g
 ·rw[zV] at j;obtain⟨_,_,j⟩:=bd j;obtain⟨y,i,j⟩:=bd j;cases j;exact XD (b:=w.b) (w:=(⟨w.b,w.in_,(⟨w.s.C,o,rem,w.s.H,w.s.O,w.s.N,out⟩:AF),ms,w.peaks,d⟩:AL)) g (.inr ⟨by show(-2:Int)≠ -3;decide,hd⟩) i
def WH {N:Nat}{w:AL}{p:Int}{a:Dw}(hd:NX w.b (Jk w.b p) a.Ak) {o:List (List Int)}{out:List Int}{ms:List AI}{c:List AO}{rem:List Int}{y:Int×Int}{r:List (List Int)×List Int×List Int×List AI×List AO}(d:∀m∈ms,R8 w.b m) (i:DB N w p a o out ms c y (CC N w p a) rem=some r):∀m∈r.2.2.2.1,R8 w.b m:=by
 unfold DB at i;obtain⟨_,_,i⟩:=bd i;obtain⟨z,g,i⟩:=bd i;exact WI hd (XD (b:=w.b) (w:=(⟨w.b,w.in_,(⟨w.s.C,o,rem,w.s.H,w.s.O,w.s.N,out⟩:AF),ms,w.peaks,c⟩:AL)) d (.inr ⟨by show(-1:Int)≠ -3;decide,hd⟩) g) i
def iQ {N:Nat}(B:18446744073709551616<N) {w:AL}(v:Nj w.b) (x:w.b.F.length≤1000) (C:w.in_.Z.length≤1000) {p:Int}{r:List (List Int)×List Int×List Int×List AI×List AO}(g:∀m∈w.moves,R8 w.b m) (U:Eb N w p=some r):∀m∈r.2.2.2.1,R8 w.b m:=by
 unfold Eb at U;obtain⟨z,i,U⟩:=bd U;obtain⟨l,a,U⟩:=bd U;obtain⟨D,d,U⟩:=bd U;obtain⟨G,j,U⟩:=bd U;obtain⟨K,M,H⟩:=QB i;obtain⟨q,rfl⟩:∃q:Nat,p=(q:Int):=⟨p.toNat,by omega⟩
 have hd:NX w.b (Jk w.b (q:Int)) z.Ak:=by rw[H];exact v.down _ (Abf (Dy i).2)
 have I:l.length≤1000:=by
  rw[Vn B C (show q<w.b.A.length by omega)] at a;cases a;have:=RL N w.b q w.in_.Z;omega
 have n:=Ri x _ _ 0 _ (Aad _) (by unfold Gd at d;exact d);rw[List.length_nil] at n;rw[UY (by omega) _ _ (by omega) (by omega)] at j;cases j;have s:=ST _ [] _ _ (λe k=>by cases k) (by unfold HR at a;exact a);have u:=Qv v x _ [] 0 _ (Aad _) (λe k=>by cases k) (by unfold Gd at d;exact d);refine WK (λe k=>(Aa0.1 k).elim (s e) (u e)) (λo out ms Q r g U=>?_) _ _ _ _ _ _ _ g U;unfold D2 at U;cases c:decide (z.T≠0)<;>rw[c] at U
 ·exact WI hd g U
 ·rw[zV] at U;obtain⟨_,_,U⟩:=bd U;obtain⟨_,_,U⟩:=bd U;obtain⟨_,_,U⟩:=bd U;obtain⟨_,_,U⟩:=bd U;obtain⟨y,_,U⟩:=bd U;obtain⟨_,_,U⟩:=bd U;obtain⟨_,_,U⟩:=bd U;obtain⟨_,_,U⟩:=bd U;obtain⟨_,_,U⟩:=bd U;obtain⟨t,_,U⟩:=bd U;cases J:decide (y.1≤t)<;>rw[J] at U
  ·exact WH hd g U
  ·rw[zV] at U;obtain⟨_,_,U⟩:=bd U;obtain⟨_,_,U⟩:=bd U;exact WH hd g U
def W5 {N:Nat}{w:AL}:∀(n:Nat) (a c i:Int) (ms:List AI) (o:List (List Int)) (g:List Int) r,(∀m∈ms,R8 w.b m)→CB N w n a c i ms o g=some r→∀m∈r.2.2,R8 w.b m
 |0,_,_,_,_,_,_,_,_,q=>by cases q
 |n+1,a,c,i,ms,o,g,r,j,q=>by
  simp only[CB] at q;have l:∀m:Int,EO N w a c i ms o g (EQ N i (CB N w n)) m=some r→∀m∈r.2.2,R8 w.b m:=λm q=>by
   unfold EO at q;cases k:decide (m≤0)<;>rw[k] at q
   ·rw[zX] at q;obtain⟨_,_,q⟩:=bd q;obtain⟨_,_,q⟩:=bd q;obtain⟨_,_,q⟩:=bd q;obtain⟨_,_,q⟩:=bd q;obtain⟨_,_,q⟩:=bd q;obtain⟨_,_,q⟩:=bd q;obtain⟨_,_,q⟩:=bd q;obtain⟨_,_,q⟩:=bd q;have q:=(KM q).2;obtain⟨_,_,q⟩:=bd q;obtain⟨_,_,q⟩:=bd q;have q:=(KM q).2;refine W5 n _ _ _ _ _ _ r (λm d=>?_) q;rcases Aa0.1 d with d|d
    ·exact j m d
    ·rw[Abi.1 d];exact .inl rfl
   ·exact W5 n _ _ _ _ _ _ r j q
  cases k:decide (i<(w.b.A.length:Int))<;>rw[k] at q
  ·cases q;exact j
  ·rw[zV] at q;cases p:decide (i<(w.in_.Aa.length:Int))<;>rw[p] at q
   ·rw[zX] at q;exact l _ q
   ·rw[zV] at q;obtain⟨_,_,q⟩:=bd q;exact l _ q
def iF {N:Nat}{w:AL}(g:w.moves=[]) {r:List (List Int)×List Int×List AI}(k:Ht N w=some r):∀m∈r.2.2,R8 w.b m:=by
 have j:∀(n:Nat) (a i:Int),C2 N w (C4 N w) n a i=some r→∀m∈r.2.2,R8 w.b m:=by
  intro n
  induction n with
  |zero=>intro a i k;cases k
  |succ n d=>
   intro a i k;simp only[C2] at k;cases c:decide (i<(w.s.H.length:Int))<;>rw[c] at k
   ·rw[zX] at k;unfold C4 at k;obtain⟨_,_,k⟩:=bd k;exact W5 _ _ _ _ _ _ _ _ (λm k=>by rw[g] at k;cases k) k
   ·rw[zV] at k;obtain⟨_,_,k⟩:=bd k;obtain⟨_,_,k⟩:=bd k;exact d _ _ k
 have l1:∀(n:Nat) (a i:Int),C3 N w (DO N w) n a i=some r→∀m∈r.2.2,R8 w.b m:=by
  intro n
  induction n with
  |zero=>intro a i k;cases k
  |succ n d=>
   intro a i k;simp only[C3] at k;cases c:decide (i<(w.s.E.length:Int))<;>rw[c] at k
   ·exact j _ _ _ k
   ·rw[zV] at k;obtain⟨_,_,k⟩:=bd k;obtain⟨_,_,k⟩:=bd k;obtain⟨_,_,k⟩:=bd k;exact d _ _ k
 exact l1 _ _ _ k
def nU {N:Nat}(t:18446744073709551616<N) {b:AE}(u:Nj b) (v:b.F.length≤1000) {s:AF}{in_:Cs}(x:in_.Z.length≤1000) {r:AF×List AI×List Int}(G:Em N b s in_=some r):∀m∈r.2.1,R8 b m:=by
 unfold Em at G;obtain⟨g,_,G⟩:=bd G;have G:=(KM G).2;obtain⟨l,_,G⟩:=bd G;obtain⟨p,_,G⟩:=bd G;obtain⟨d,j,G⟩:=bd G;obtain⟨a,_,G⟩:=bd G;have z:=iF rfl j;have l1:∀(n:Nat) (i:Int) o rem out ms k,(∀m∈ms,R8 b m)→DV N b in_ g d a (DW N g d a) n i o rem out ms k=some r→∀m∈r.2.1,R8 b m:=by
  intro n
  induction n with
  |zero=>intro i o rem out ms k _ G;cases G
  |succ n B=>
   intro i o rem out ms k q G;simp only[DV] at G;cases c:decide (i<(b.A.length:Int))<;>rw[c] at G
   ·rw[zX] at G;unfold DW at G;have G:=(KM G).2;cases G;exact q
   ·rw[zV] at G;obtain⟨y,D,G⟩:=bd G;exact B _ _ _ _ _ _ (iQ t (w:=(⟨b,in_,(⟨g.C,o,rem,a.2.1,a.2.2.1,d.2.1,out⟩:AF),ms,a.2.2.2,k⟩:AL)) u v x q D) G
 exact l1 _ _ _ _ _ _ _ z G
structure Zk (b:AE) (m:AI):Prop extends zO b m where
 nx:0≤m.D→(m.Ap= -3∧(m.B= -1∨Jk b m.B=Jk b m.D))∨(m.Ap≠ -3∧NX b (Jk b m.D) m.B)
def Sd.mok {N:Nat}(j:18446744073709551616<N) {b:AE}(d:Xc b) (k:Nj b) {s t:AF}{l:List Cs}{ss:List AF}{ms:List AI}{ps:List (List Int)}(C:Sd N b s l ss ms ps t):(∀i∈l,i.Z.length≤1000)→∀m∈ms,Zk b m:=by
 intro g m a;refine⟨C.mvk d.r.head m a,?_⟩;have v:=d.l6
 induction C with
 |nil s=>cases a
 | @cons s i y w ss ms ps t o c n=>
  rcases Aa0.1 a with a|a
  ·intro h0;obtain⟨x,z,A,l,_,B,_,C,_,_⟩:=o.ex;have q:=nU j k (by omega) (g _ (.head _)) o.er m a;rw[C.lv.ms_] at a;rcases Aa0.1 a with a|a
   ·have:=(W3 a).1;omega
   ·obtain⟨p,_,u⟩:=C.lv.mv m a;exact q.resolve_left u.way
  ·exact n (λi a=>g i (.tail _ a)) a
end Go.Proofs.YtedgiljmffngoaaGreat
