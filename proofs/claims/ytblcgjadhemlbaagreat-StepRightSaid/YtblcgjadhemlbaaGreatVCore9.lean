import Derived.Test.YtblcgjadhemlbaaGreatVPureR2
import Derived.Test.YtblcgjadhemlbaaGreatVPureR1
import Derived.Test.YtblcgjadhemlbaaGreatVCore8
import Derived.ProofKit
import Derived.OpenShut
import Derived.JoinedCond
import Derived.Deep.Slices
namespace Go.Proofs.YtblcgjadhemlbaaGreat
set_option linter.all false
open Go.RowKit
def WM {N:Nat}(F:18446744073709551616<N) {b:AU}(Z:HY N b=some true):JK b∧QV b∧FV N b=some true∧E3 N b=some true:=by
 obtain⟨v,e,k⟩:=TR F b
 rw[Z] at e
 cases e
 have k:=k rfl
 unfold HY at Z
 obtain⟨Y,_,Z⟩:=bd Z
 obtain⟨H,I,Z⟩:=bd Z
 obtain⟨J,i,Z⟩:=bd Z
 obtain⟨K,j,Z⟩:=bd Z
 obtain⟨M,m,Z⟩:=bd Z
 obtain⟨Q,n,Z⟩:=bd Z
 obtain⟨U,o,Z⟩:=bd Z
 obtain⟨V,p,Z⟩:=bd Z
 obtain⟨W,q,Z⟩:=bd Z
 have a:∀{c:Bool} {x:Option Bool} {d:Bool},cond c (x.bind λy=>some y) (some false)=some d→d=true→c=true∧x=some true:=by
  intro c x d s hd
  subst hd
  cases c
  ·cases s
  ·cases x with
   |none=>cases s
   |some y=>exact⟨rfl,s⟩
 have t:=mZ Z
 have u:=a q t
 have w:=a p u.1
 have z:=a o w.1
 have A:=a n z.1
 have B:=a m A.1
 have g:=a j B.1
 refine⟨k,λl X=>?_,(a i g.1).2,g.2⟩
 have D:=WC F k.head k.links g.2 l X
 by_cases h0:l.C=0
 ·have:=D.gate h0;exact⟨this.2.2.1,this.2.2.2.1⟩
 ·by_cases G:l.C=2
  ·have:=D.pump G;exact⟨⟨by omega,this.2.1.2⟩,this.2.2⟩
  ·have:=D.none_ h0 G;exact⟨by omega,by omega⟩
def Ww {N:Nat}(u:18446744073709551616<N) {b:AU}(j:HD b) (m:∀p∈b.A,p.As.length=b.H.length) (H:Int):Ig N b H=some (⟨H,b.A.map λp=>p.As,List.replicate b.A.length 0,[],List.replicate b.E.length ⟨0,0,false,false⟩,List.replicate b.H.length 0,List.replicate b.H.length 0⟩:BD):=by
 have v:=j.pl
 have w:=j.li
 have y:=j.own
 have z:∀{C:Type} (x:Option C),chk (Jh (b.A.length:Int) (b.A.length:Int) 24) x=x:=λx=>IM (by omega) _ (by decide) x
 unfold Ig
 rw[IM (by omega) _ (by decide),IM (by omega) _ (by decide),IM (by omega) _ (by decide),IM (by omega) _ (by decide),IM (by omega) _ (by decide)]
 obtain⟨o,⟨B,q⟩,e⟩:=EQ b.A.length (λn i l=>Fq N b (GY N b H) n i l) (GY N b H) (λk (l:List (List Int))=>l.length=b.A.length∧∀i,i<k→l[i]? =(b.A.map λp=>p.As)[i]?) (λn k l a=>by
  simp only[Fq];rw[E7 a];rfl) (λn k l g a=>by
  simp only[Fq]
  have c:k<l.length:=by rw[g.1];exact a
  rw[Ev a,mW,BS a,mV,KH N (by rw[m _ (nP a)];omega)]
  simp only[BS c,mV]
  rw[BX (by omega)]
  refine⟨_,⟨by rw[K0];exact g.1,λi s=>?_⟩,rfl⟩
  by_cases d:k=i
  ·subst d;rw[GO c];simp [a]
  ·rw[IC d];exact g.2 i (by omega)) N 0 (List.replicate ((b.A.length:Int)).toNat ([]:List Int)) ⟨Mt _ _,λi g=>by omega⟩ (by omega) (nE _)
 rw[show Fq N b (GY N b H) N 0 _=GY N b H o from e]
 have t:o=b.A.map λp=>p.As:=oR λi=>by
  rcases nT i b.A.length with D|D
  ·exact q i D
  ·rw[oE (by omega),oE (by simpa using D)]
 subst t
 rfl
def TF {N:Nat}(B:18446744073709551616<N) {b:AU}(d:JK b) (C:QV b) (i:FV N b=some true) {H:Int}(D:0≤H∧H≤16777216):∃y,Ig N b H=some y∧Fs N b y=some true:=by
 have F:=d.head.pl
 unfold FV at i
 obtain⟨G,j⟩:=QB d.head N 0 0 (oA _) (by omega) (nE _) i
 rw[List.drop_zero,Int.zero_add] at G
 rw[List.drop_zero] at j
 refine⟨_,Ww B d.head (λp a=>(j p a).1) H,TH (by omega) d.head d.places (by simp) ?_⟩
 have I:EO (b.A.map λp=>p.As)=(b.A.map λp=>p.As.sum).sum:=by unfold EO;rw[List.map_map];rfl
 have o:IG b.A.length b.H.length (b.A.map λp=>p.As):=⟨by simp,λx s=>by
  obtain⟨p,a,rfl⟩:=oC.1 s
  refine⟨(j p a).1,(j p a).2,?_⟩
  have u:∀x∈b.A.map (λp=>p.As.sum),0≤x:=λx s=>by
   obtain⟨q,J,rfl⟩:=oC.1 s
   exact I0 (j q J).2
  have t:=Hg u p.As.sum (oC.2 ⟨p,a,rfl⟩)
  omega⟩
 have w:∀(n:Nat) (x:Int),x∈List.replicate n (0:Int)→0≤x:=λn x s=>by rw[(qL.1 s).2];exact oA 0
 have K:=o.sum0
 refine⟨⟨⟨o,λl c=>(by cases c),?_,by simp,by simp,by simp,w _,?_,by simp⟩,D,λk l g c v=>?_,λl c=>(by cases c),w _,?_⟩,λk p m a M=>?_,λk l g c v z=>?_⟩
 ·show EO (b.A.map λp=>p.As)+0≤_
  omega
 ·show(List.replicate b.H.length (0:Int)).sum≤_
  rw[Rv];decide
 ·have u:=C l (oM c)
  have t:=(qL.1 (oM v)).2
  rw[t]
  exact⟨⟨oA _,u.1.1⟩,oA _,u.1.1⟩
 ·show(List.replicate b.H.length (0:Int)).sum≤(List.replicate b.H.length (0:Int)).sum+1125899906842624-(EO (b.A.map λp=>p.As)+0)
  omega
 ·have t:=(qL.1 (oM M)).2
  omega
 ·have t:=(qL.1 (oM v)).2
  rw[t] at z
  cases z
def XJ {b:AU}{H:Int}{W:Nat}:∀{l:List BA}{w:List (List Int)},IG b.A.length W w→OZ l w→(∀m∈l,∃p,p<b.A.length∧kE b H W p m)→∀{p:Nat}{x:List Int},w[p]? =some x→∃y,(No w l)[p]? =some y∧y.sum≤x.sum
 |[],w,_,_,_,p,x,j=>⟨x,j,oA _⟩
 |m::l,w,s,u,v,p,x,j=>by
  obtain⟨⟨c,a,k⟩,d⟩:=u
  have n:=s.all c (oM a)
  have g:=k.sub n
  have h0:=g.2.2.sum0
  have i:w.getD m.I.toNat []=c:=by rw[oT,a];rfl
  rw[i] at d
  rw[show No w (m::l)=No (upd w m.I (IB (w.getD m.I.toNat []) m.X)) l from rfl,i]
  have t:=λx=>XJ (l:=l) (w:=upd w m.I (IB c m.X)) (s.upd _ g.1) d (λm o=>v m (.tail _ o)) (p:=p) (x:=x)
  by_cases e:m.I.toNat=p
  ·subst e
   have q:c=x:=mZ (a.symm.trans j)
   rw[←q]
   obtain⟨y,z,B⟩:=t (IB c m.X) (by unfold Go.Proofs.YtblcgjadhemlbaaGreat.upd;exact pU (nK.1 a).1)
   exact⟨y,z,by omega⟩
  ·exact t x (by unfold Go.Proofs.YtblcgjadhemlbaaGreat.upd;rw[pN e];exact j)
def ZP {b:AU}(c:JK b) {p:Nat}(d:p<b.A.length) (a:Int):0≤Nr b p a∧Nr b p a≤240:=by
 unfold Nr
 split
 ·rename_i g
  rw[QG (show a.toNat<b.E.length by omega)]
  exact(c.links _ (nP _)).delay
 ·split
  ·exact⟨by decide,by decide⟩
  ·have e:b.A.getD p default=b.A[p]:=by simp [oT,d]
   rw[e]
   exact(c.places _ (nP _)).delay
def UE {N:Nat}(C:18446744073709551616<N) {b:AU}(i:JK b) (K:QV b) {s:BD}(c:jZ b s) (hH:s.B<16777216) {in_:Eb}{M:List Gh}{Q:List (List Int)}{r:BD×List BA×List Int}(U:Gz N b s in_=some r) {u:List Int}{D:List (List Int)}{l:List BA}(h:Vd N b s M Q r u D l) (k1:EO D+Fu (Kv s.B s.J)=EO s.G+Fu s.J+u.sum) (k4:s.O.sum+u.sum≤1152921504606846976):jZ b r.1∧r.1.B=s.B+1:=by
 have j:=i.head.own1
 have a:=Vc C i.head c.rg h
 obtain⟨F,v⟩:=Ys C i.head i.places K c U
 have z:=I0 h.n0
 have hh:=c.rg.hour
 have o:r.1.B=s.B+1:=by rw[h.hour,DG (by omega) (by omega)]
 have V:r.1.O.sum=s.O.sum+u.sum:=by rw[h.inn,KW (by rw[c.rg.x.inn,Pv]),Rj j]
 have W:=a.tot
 have h3:=h.os3
 have X:=a.l0
 have Y:=a.os
 have Z:=c.rg.outs
 have aa:=I0 c.rg.x.inn0
 refine⟨⟨⟨⟨a.own,a.que,by omega,F.1,v.1,by rw[h.inn];exact N4 c.rg.x.inn (Pv _ _),?_,by omega,a.ol⟩,by omega,λk l g w y=>⟨(v.2 k l g w y).pos,(v.2 k l g w y).tgt⟩,λq d=>?_,a.o0,by omega⟩,F.2,λk l g w y=>(v.2 k l g w y).opn⟩,o⟩
 ·rw[h.inn]
  refine PZ c.rg.x.inn0 (Zw j z ?_).nn
  have ab:=c.rg.x.own.sum0
  have A:=(E9 c.rg.x.que 0).2
  rw[pB,show Fu ([]:List BE)=0 from rfl] at A
  omega
 ·rw[o]
  rw[h.que] at d
  rcases oQ.1 d with d|d
  ·obtain⟨q1,H⟩:=oX.1 d
   have H:=pR H
   exact⟨by omega,(c.rg.at_ q q1).2⟩
  ·obtain⟨m,hm,e⟩:=qS.1 d
   obtain⟨p,hp,t⟩:=h.lv.mv m hm
   unfold Ku at e
   split at e
   ·cases e
   ·cases e
    have hd:=ZP i hp m.Bf
    have hf:=t.fr
    rw[show p=m.I.toNat by omega] at hd
    refine⟨?_,t.pos⟩
    show s.B+1≤B0 (B0 (s.B+1)+Nr b m.I.toNat m.Bf)
    rw[DG (n:=s.B+1) (by omega) (by omega),DG (by omega) (by omega)]
    omega
def XA {N:Nat}(G:18446744073709551616<N) {b:AU}(o:HD b) {s:BD}{v:List Gh}{w:List (List Int)}{r:BD×List BA×List Int}{z:List Int}{p:List (List Int)}{l:List BA}(J:Vd N b s v w r z p l) (j:Option Bool):Cx N b r j N 0=j:=by
 have H:=o.own
 have B:=o.pl
 exact OG b.A.length (λn i=>Cx N b r j n i) j (λn k a=>by
  simp only[Cx];rw[E7 a];rfl) (λn k a=>by
  obtain⟨q,C,c,t⟩:=J.ox3.ix a
  obtain⟨x,D,g,d⟩:=J.lv.ox.ix a
  obtain⟨y,u,F⟩:=XJ J.ox3 J.lv.val J.lv.mv c
  rw[←J.lv.own,g] at u
  cases u
  have I:=J.cap k a x g
  have m:ix r.2.2 (k:Int)=some q.sum:=by
   rw[J.pk,BS (show k<(p.map List.sum).length by rw[qX,J.ox3.len];exact a)]
   have e:=(nK.1 c).2
   simp [e]
  simp only[Cx]
  rw[Ev a,mW,D,mV,Y6 (by omega) (by rw[d.len];omega) d.nn (by have:=d.mv;omega),mV,BS a,mV,nL (show ¬(b.A[k]).Aj<x.sum by omega),mX,m,mV,mV,nL (show ¬q.sum<x.sum by omega),mV,mX,BX (by omega)]) N 0 (by omega) (nE _)
def Ro {N:Nat}(d:18446744073709551616<N) (j:HH N=some true) (b:AU) (s:BD) (in_:Eb):GI N b s in_=some true:=by
 unfold GI Ii I2
 rw[j,mV]
 cases t:(((decide (6<(b.A.length:Int))||decide (6<(b.E.length:Int)))||decide (4<(b.H.length:Int)))||decide (12<(s.J.length:Int))) with
 |true=>rfl
 |false=>
  simp only[nZ,nV] at t
  rw[mX,mV]
  cases u:((((decide ((in_.Aa.length:Int)≤8)&&decide ((in_.Am.length:Int)≤8))&&decide ((in_.Ar.length:Int)≤8))&&decide ((in_.Ae.length:Int)≤8))&&decide ((in_.Az.length:Int)≤8)) with
  |false=>rfl
  |true=>
   simp only[mY,nR] at u
   obtain⟨v,n,kv⟩:=TR d b
   rw[mW,n,mV,mV]
   cases v with
   |false=>rfl
   |true=>
    obtain⟨c,o,k,_⟩:=WM d n
    obtain⟨v,w,z⟩:=Vx (N:=N) (by omega) c.head c.places s (by omega)
    rw[mW,w,mV,mV,mV]
    cases v with
    |false=>rfl
    |true=>
     have i:=z rfl
     rw[oF,pI]
     by_cases p:16777216≤s.B
     ·rw[nW p];rfl
     ·have C:=c.head.own
      obtain⟨Y,D,F,G,_⟩:=Ws (N:=N) (by omega) (b:=b) (s:=s) (in_:=in_) (W:=b.H.length) (by omega) (by omega) i.rg.x.own
      obtain⟨r,Z,o3,l,q,h,I,_,_,K⟩:=Yt d c.head c.links c.places i.rg.x (by omega) (in_:=in_) (by omega) (by omega) (by omega) D F G
      obtain⟨M,q2⟩:=UE d c o i (by omega) q h I K
      have a:=Vc d c.head i.rg h
      have Q:=a.ql
      have m:(r.2.2.length:Int)=(b.A.length:Int):=by rw[h.pk,qX,h.ox3.len]
      have U:=i.rg.hour
      obtain⟨y,V,X⟩:=TF d c o k U
      have g:(((!true)||decide (r.1.B≠B0 (s.B+1)))||decide ((r.2.2.length:Int)≠(b.A.length:Int)))=false:=by
       rw[m,h.hour];simp
      rw[nL p,mX,q,mV,TH (by omega) c.head c.places (by omega) M,mV,g,mX,XA d c.head h]
      unfold E2
      rw[mW,V,mV,X]
      rfl
def PI (b:AU) (s:BD) (in_:Eb):GI BN b s in_=some true:=Ro kL Yv b s in_
end Go.Proofs.YtblcgjadhemlbaaGreat
namespace Go.Proofs.YtblcgjadhemlbaaGreat
set_option linter.all false
open Go.ChangeShapes Go.WideShapes Go.ChangeAt Go.RowKit Go.Deep
def FP {α}(P:Program) (t:TypeId) (r:BW α):Prop:=
 P.cellsOf t=r.sz∧∀{H:Type} {enc:TypeId×Value→H} {w:World} {c:Nat} {a:Nat→Bool} {d:Bool} {g:Nat} {cs:List Value} {x:DataW H×List MemPlace},
  DataW.trod enc P w c a d g t cs=some x→∃y,r.rd (λb=>b<w.heap.size) w.heap cs y
def Y7 {n:Int}(a:(Lit.int .i64 n).wf=true):AH n:=by
 simpa [Lit.wf,IntKind.min,IntKind.max,IntKind.signed,IntKind.bits,AH] using a
def WA {P:Program}{t:TypeId}(i:P.cellsOf t=1) (j:P.underlying t=some (.int .i64)):FP P t AJ:=by
 refine⟨i,λ{H enc w d b g a cs x} o=>?_⟩
 cases a with
 |zero=>simp [DataW.trod] at o
 |succ n=>
  unfold DataW.trod at o
  simp only[j] at o
  split at o<;>simp_all
  rename_i k l m
  obtain⟨⟨rfl,c⟩,_⟩:=o
  subst m
  exact⟨l,rfl,Y7 c⟩
def UR {P:Program}{t:TypeId}(g:P.cellsOf t=1) (i:P.underlying t=some .bool):FP P t BW.bool:=by
 refine⟨g,λ{H enc w c b d a cs x} j=>?_⟩
 cases a with
 |zero=>simp [DataW.trod] at j
 |succ n=>
  unfold DataW.trod at j
  simp only[i] at j
  split at j<;>first|(exact ⟨_,rfl⟩)|simp_all
def V9 {P:Program}{t:TypeId}(g:P.cellsOf t=1) (i:P.underlying t=some .string):FP P t BW.str:=by
 refine⟨g,λ{H enc w c b d a cs x} j=>?_⟩
 cases a with
 |zero=>simp [DataW.trod] at j
 |succ n=>
  unfold DataW.trod at j
  simp only[i] at j
  split at j<;>simp_all
  exact⟨_,rfl,j.1⟩
def O8 {α}{p:Nat→α→Prop}:∀n,(∀i,i<n→∃x,p i x)→∃l:List α,l.length=n∧∀i x,l[i]? =some x→p i x
 |0,_=>⟨[],rfl,λi x j=>by simp at j⟩
 |n+1,j=>by
  obtain⟨l,b,c⟩:=O8 n λi d=>j i (by omega)
  obtain⟨x,g⟩:=j n (by omega)
  refine⟨l++[x],by simp [b],λi y a=>?_⟩
  rw[List.getElem?_append] at a
  split at a
  ·exact c i y a
  ·rename_i d
   have:i-l.length=0:=by
    have:=(nK.1 a).1
    simp at this;omega
   rw[this] at a
   simp at a
   subst a
   have:i=n:=by omega
   subst this
   exact g
def Gw {P:Program}{t e:TypeId}{α}{r:BW α}(Q:P.cellsOf t=1) (U:P.underlying t=some (.slice e)) (A:FP P e r) (V:Nat.blt 0 r.sz=true):FP P t (BW.sl r):=by
 refine⟨Q,λ{H enc w J B K M cs x} h=>?_⟩
 have k:0<r.sz:=(by simpa [Nat.blt] using V:1≤r.sz)
 rcases open_slice U h with ⟨rfl,_⟩|⟨a,len,cap,m,n,D,Pl,rfl,hb,hlc,hcm,hm,_,hel⟩
 ·exact⟨[],_,rfl,.inl ⟨rfl,rfl⟩⟩
 ·have W:len≤m:=by rw[hm];split<;>omega
  obtain⟨l,X,C⟩:=O8 (p:=λi x=>a.spot=none∧Pt (λb=>b<w.heap.size) w.heap r (.pointer (some ⟨a.block,a.off+i*r.sz,none⟩)) x) len λi hi=>by
   obtain⟨cs',F,G⟩:=hel i (by omega)
   obtain⟨y,Y⟩:=A.2 G
   obtain⟨_,q,Ip⟩:=World.cells?_some F
   rw[A.1] at q Ip
   have u:a.spot=none:=by
    obtain⟨v,I,_⟩:=hel 0 (by omega)
    obtain⟨_,g,c⟩:=World.cells?_some I
    rw[A.1] at g c
    have h0:=c 0 k
    have Z:(a.add (0*r.sz)).add 0=a:=by simp [Addr.add]
    rw[Z] at h0
    cases hs:a.spot with
    |none=>rfl
    |some s=>
     have:w.cell? a=none:=by
      unfold World.cell?
      split
      ·simp [hs]
      ·rfl
     rw[this] at h0
     have:v[0]? =some (v[0]'(by omega)):=nO (by omega)
     rw[this] at h0
     cases h0
   obtain⟨b,o,s⟩:=a
   simp only at u
   subst u
   have d:∀j,((⟨b,o,none⟩:Addr).add (i*r.sz)).add j=⟨b,o+i*r.sz+j,none⟩:=by
    intro j
    have e1:(⟨b,o,none⟩:Addr).add (i*r.sz)=⟨b,o+i*r.sz,none⟩:=by unfold Addr.add;split<;>simp_all
    rw[e1];unfold Addr.add;split<;>simp_all
   have z:b<w.heap.size:=by
    have h0:=Ip 0 k
    rw[d] at h0
    have:cs'[0]? =some (cs'[0]'(by omega)):=nO (by omega)
    rw[this] at h0
    exact World.block_lt_of_cell? w _ h0
   refine⟨y,rfl,cs',⟨⟨b,o+i*r.sz,none⟩,rfl,rfl,z,λj hj=>?_⟩,Y⟩
   have:=Ip j (by omega)
   rw[d] at this
   exact this
  exact⟨l,_,rfl,.inr ⟨a,cap,by rw[X],by omega,hcm,C⟩⟩
def D5 {P:Program}{t:TypeId}{l:Array Field}(q:P.underlying t=some (.struct l)) {H:Type}{enc:TypeId×Value→H}{w:World}{c:Nat}{a:Nat→Bool}{d:Bool}{g:Nat}{cs:List Value}{x:DataW H×List MemPlace}
  (v:DataW.trod enc P w c a d g t cs=some x):cs.length=P.cellsOf t∧∀(j:Nat) (f:Field) {z} (r:BW z),l[j]? =some f→FP P f.type r→∃y,r.rd (λb=>b<w.heap.size) w.heap ((cs.drop f.offset).take r.sz) y:=by
 obtain⟨xs,n,_,_,s,i,u⟩:=DataW.trod_struct q v
 refine⟨s,λj f z r m o=>?_⟩
 have p:=u j f m
 have k:j<xs.length:=by rw[i];exact(nS.1 m).1
 rw[nO k,o.1] at p
 exact o.2 p
def Uc {P:Program}{t:TypeId}{l:Array Field}{α}{r:BW α}(m:FP P t r) (i:r.ag=true) (n:P.underlying t=some (.struct l)) {H:Type}{enc:TypeId×Value→H}{w:World}{j:Reach}{o c:Nat}{a:Nat→Bool}{g:Bool}{v:Value}{d:DataW H}{p:List MemPlace}
  (q:Value.okWide P w j o t v) (x:DataW.Trod enc P w c a g t v d p):∃y,Rd (λb=>b<w.heap.size) w.heap r v y:=by
 obtain⟨cs,rfl,_⟩:=okWide_struct n q
 obtain⟨k,s⟩:=x
 obtain⟨y,u⟩:=m.2 s
 exact⟨y,cs.toList,by simp [BW.val,i],u⟩
def Ng {H:Type}{enc:TypeId×Value→H}{P:Program}(m:laidOutB P=true) {W n:World}(o:Below W.heap.size W n):
  ∀{j:List TypeId} {vs:List Value} {k:List (DataW H)} {b:List MemPlace},(∀t∈j,P.readableRec t=true∧t<P.types.size)→DataW.TrodAll enc P W 0 (λ_=>true) true j vs k b→(∀x∈b,x.block<W.heap.size)→
   ∀c:Nat→Bool,(∀x∈b,c x.block=true)→DataW.TrodAll enc P n 0 c true j vs k b
 |[],vs,k,b,_,C,_,c,_=>by
  obtain⟨rfl,rfl,rfl⟩:=trodAll_nil C
  exact rfl
 |t::j,vs,k,b,s,C,g,c,i=>by
  obtain⟨v,u,d,w,p,q,rfl,rfl,rfl,y,z⟩:=trodAll_cons C
  obtain⟨A,B⟩:=s t (by simp)
  refine⟨p,q,WideElems.Trod_stays m A B y (λx a=>o.same (g x (by simp [a]))) (λx a=>i x (by simp [a])),?_,rfl⟩
  exact Ng m o (λt l=>s t (by simp [l])) z (λx a=>g x (by simp [a])) c λx a=>i x (by simp [a])
def XU {H:Type}{enc:TypeId×Value→H}{P:Program}{f:Func}{s:ChangeSpec}{W l:World}{c:Array Value}{d i:List (DataW H)}{a:List MemPlace}{tb:TypeId}
  (q:laidOutB P=true) (j:f.params.toList.all (λt=>P.readableRec t&&decide (t<P.types.size))=true) (k:DataW.Whole enc P f.params.toList s.vars false W c.toList d i a)
  (u:f.resultTypes= #[tb]) (v:P.underlying tb=some .bool) (b:s.vars=[]) (w:(s.fn H (d++i)).results=[.lit (.bool true)]) (y:(s.fn H (d++i)).args=d) (z:(s.fn H (d++i)).vars=[])
  (m:Below W.heap.size W l):s.post enc P f false true false false W c (.bool true) l:=by
 have g:∀p∈a,p.block<W.heap.size:=λp A=>k.lt p A
 obtain⟨n,F,B,o,rfl,G,I⟩:=id k
 rw[b] at o
 obtain⟨rfl,rfl⟩:=trodVars_none o
 simp only[oS] at*
 refine⟨d,[],n,[],n,[],by simpa using k,?_,?_,?_,?_,λJ=>by cases J⟩
 ·simp only[oS]
  rw[w,u]
  exact trodAll_mk1 (shut_bool v true)
 ·simp only[oS]
  rw[y]
  refine Ng q m (λt C=>?_) B g _ λx D=>by simpa using g x D
  have:=nC.1 j t C
  simpa using this
 ·simp only[oS]
  rw[z,b]
  exact rfl
 ·exact m.frame _
def WD {P:Program}{f:FuncId}{a:Array Value}{W:World}{L:(Nat→Prop)→BL→Prop}(k:C5 P f a (λb=>b<W.heap.size) W.heap (λv S' h'=>v= .bool true∧L S' h')):
  Calls P f a W λe d=>e= .returned (.bool true)∧Below W.heap.size W d:=
 (k W W ⟨rfl,rfl,rfl,rfl⟩).mono λe d ⟨v,S',h',i,c,g,j,_⟩=>by
  subst i;subst j
  exact⟨rfl,c.os,c.tape,c.out,by rw[c.heap];exact g.siz,λb l=>by rw[c.heap];exact g.same b l⟩
end Go.Proofs.YtblcgjadhemlbaaGreat
