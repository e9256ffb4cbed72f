import Derived.Test.YtibidnaedddfdaaGreatERefM
import Derived.Test.YtibidnaedddfdaaGreatERefZ
namespace Go.Proofs.YtibidnaedddfdaaGreat
set_option linter.all false
open Go.RowKit
set_option maxHeartbeats 1000000 in
def oF {N:Nat}(u:18446744073709551616<N) {b:AF}(o:L4 N b) {h:BV}(hv:h.K.length=b.E.length) (M:∀v∈h.K,H6 v) (h0:0≤h.I∧h.I≤33554432) (hq:OK b.E.length h.I h.N) (g:Lc b h.D) {in_:BT}(hf:in_.Bc.length≤1000) (hc:in_.Bb.length≤1000) (af:in_.Ag.length≤90) (ht:∀t∈in_.Ag,AA t.Al) {sure:List Bool}{m:List AB}(hr:∀s∈m,AA s.B∧AA s.A)
  (ag:h.N.length≤4398048211104):JV N b h in_ sure m=Jn N b h in_ sure m:=by
 have ah:=o.head.pl;have ai:=o.head.li;have aj:=g.1;have Q:Mn (b.E.length:Int) (b.E.length:Int) 16=true:=by simp [Mn];omega
 unfold JV Jn Cq Cj;rw[Kh (by simp only[yU];omega),Kh (by simp only[yU];omega),Kh (by simp only[yU];omega),uF,Kh (by simp only[yU];omega),uF,Q];simp only[wB,chk,uG];generalize U:List.replicate ((b.E.length:Int):Int).toNat ((⟨0,0⟩:AB):AB)=y
 have z:y.length=b.E.length:=by rw[←U];simp
 have V:∀x∈y,x=⟨0,0⟩:=λx hx=>by rw[←U] at hx;exact List.eq_of_mem_replicate hx
 obtain⟨l1,F,k1⟩:=Vp u (w:=⟨b,⟨h.I,h.K,h.N,h.D⟩,y⟩) rfl o (in_:=in_) (by omega) (by omega) sure g;rw[jA N b ⟨h.I,h.K,h.N,h.D⟩ [] y,F,uF,uF];rw[iY u o (h:=⟨h.I,h.K,h.N,l1⟩) hv M (t:=h.I) hq (by show h.N.length≤_;omega) k1 z hr];obtain⟨a,d,c,e2,k2,k3,k4,k5⟩:=R8 u (w:=⟨b,⟨h.I,h.K,h.N,l1⟩,y⟩) rfl o hv M (t:=h.I) rfl hq (by show h.N.length≤_;omega) k1 z V hr;rw[e2,uF,uF];have k3:a.length≤h.N.length:=k3;obtain⟨⟨l,vs,q⟩,⟨W,X,q'⟩,⟨G,i2,i4,i5,H⟩,e3,e4⟩:=PG b.E.length (λn i (s:List AB×List AB×List AZ)=>Ez N b h in_ (a,d,c) (E0 N h (a,d,c)) n i s.1 s.2.1 s.2.2) (λs=>E0 N h (a,d,c) s.1 s.2.1 s.2.2)
  (λn i (s:List AB×List AB×List AZ)=>ED N b h in_ (a,d,c) (Et N h (a,d,c)) n s.1 i s.2.1 s.2.2) (λs=>Et N h (a,d,c) s.1 s.2.1 s.2.2)
  (λk s r=>La H6 b.E.length s.1∧s.2.1.length=b.E.length∧OK b.E.length (h.I+1) s.2.2∧s.2.2.length≤a.length+k*(in_.Ag.length+101)∧r=(s.1.take k,s.2.1,s.2.2)) (λn k s g=>by
  simp only[Ez];rw[ES g];rfl) (λn k s g=>by
  simp only[ED];rw[ES g];rfl) (λn k s r hi g=>by
  obtain⟨l,vs,q⟩:=s;obtain⟨I1,I2,I4,I5,I6⟩:=hi;have G:La H6 b.E.length l:=I1;have i2:vs.length=b.E.length:=I2;have i4:OK b.E.length (h.I+1) q:=I4;have i5:q.length≤a.length+k*(in_.Ag.length+101):=I5;have H:r=(l.take k,vs,q):=I6;clear I1 I2 I4 I5 I6;subst H;have Y:k<c.length:=by rw[k5.1];exact g
  have p:=uU Y;have C:=k5.2 _ (vA Y);generalize c[k]=ac at p C
  have ak:k*(in_.Ag.length+101)+(in_.Ag.length+101)=(k+1)*(in_.Ag.length+101):=by rw[wJ];omega
  have ad:(k+1)*(in_.Ag.length+101)≤64*191:=yY (by omega) (by omega);obtain⟨J,ep,p3,p4,p5⟩:=Vz u (w:=⟨b,⟨h.I,vs,q,d⟩,c⟩) rfl o k4 k5 g p (takes:=in_.Ag) (by omega) ht;obtain⟨Z,v1,q1,el,a1,a2,a3,a4,a5,a6⟩:=Vq u (w:=⟨b,⟨h.I,vs,q,d⟩,c⟩) rfl o (t:=h.I) rfl h0 i2 g p C i4 (by show q.length+300<4398048301104;omega) p3 p4 (by omega);obtain⟨zx,x1,x2,x3⟩:=jD u o (h:=⟨h.I,vs,q,d⟩) k4 k5.1 g (in_:=in_) (by omega);rw[ep] at x1;have x1:=uX x1;have aa:(zx.map (·.2)).length=J.length:=by
   have:=uP List.length x1;rw[vQ,vQ] at this;rw[vQ];omega
  have ab:∀j (h1:j<J.length) (h2:j<(zx.map (·.2)).length),ER N b d c k (J[j]).1 (zx.map (·.2))[j]:=λj h1 h2=>by
   have U:j<zx.length:=by rw[vQ] at h2;exact h2
   have F:(J.map (·.1))[j]? =(zx.map (·.1))[j]? :=by rw[x1]
   rw[xG,xG,uU h1,uU U] at F;have F:(J[j]).1=(zx[j]).1:=uX F;rw[F,List.getElem_map];exact x3 _ (vA U)
  have rl:=jC u o (t:=h.I) h0 i2 g p C i4 (by omega) p3 p4 (by omega) aa ab x2;have a6:q1.length≤q.length+J.length+1:=a6;have ae:=G.1;simp only[Ez,ED];rw[Ei g,uG,uG,ep,uF,el,uF,A9 (show k<l.length by omega),rl,el];simp only[uF,BE (show k<4611686018427387904 by omega),RU];rw[Kh (by rw[vV];omega)];refine⟨(l.set k Z,vs.set k v1,q1),((l.set k Z).take (k+1),vs.set k v1,q1),⟨G.set k a1,by show(vs.set k v1).length=_;rw[yL];exact i2,a5,by show q1.length≤_;omega,rfl⟩,rfl,?_⟩;have:l.take k++[Z]=(l.set k Z).take (k+1):=by
   rw[J3 (show k<(l.set k Z).length by rw[yL];omega),List.getElem_set_self];congr 1;rw[List.take_set_of_le (uW _)]
  rw[this]) N 0 (y,h.K,a) ([],h.K,a) ⟨⟨z,λx hx=>by rw[V x hx];exact⟨by decide,by decide,by decide⟩⟩,hv,k2,by simp,by rw[List.take_zero]⟩ (by omega) (uO _)
 rw[show Ez N b h in_ (a,d,c) (E0 N h (a,d,c)) N 0 y h.K a=E0 N h (a,d,c) l vs q from e3,show ED N b h in_ (a,d,c) (Et N h (a,d,c)) N [] 0 h.K a=Et N h (a,d,c) W X q' from e4];have G:La H6 b.E.length l:=G;have H:(W,X,q')=(l.take b.E.length,vs,q):=H;rw[←G.1,wQ] at H;cases H;rfl
def Sl.rdx {α}{S:Nat→Prop}{h:AX}{r:BU α}{v:Value}{l:List α}(k:Sl S h r v l) {x:α}(a:x∈l):∃cs,r.rd S h cs x:=by
 obtain⟨i,b⟩:=vY.1 a;obtain⟨_,_,_,cs,_,c⟩:=k.at_ b;exact⟨cs,c⟩
def ZL {S:Nat→Prop}{h:AX}{v:Value}{x:BT}(k:Rd S h D2 v x):∀t∈x.Ag,AA t.Al:=λt a=>by
 obtain⟨_,_,_,d,_,_,_,_,_,b,_⟩:=D2.ex k;obtain⟨cs,_,c⟩:=b.rdx a;exact c.2.2.1
def Lt (c:Ci):Prop:=(0≤c.P∧c.P≤16777216)∧c.Am.length≤24∧∀r∈c.Am,∀s∈r,AA s.B∧AA s.A
def tM {N:Nat}(a:Option Bool) (r:List AB) (j:r.length≤4398046511104) (l:9007199254740992<N):Gc N r a N 0=some false∨((∀s∈r,AA s.B∧AA s.A)∧Gc N r a N 0=a):=by
 rcases Hg r.length (Gc N r a) a (λi=>∀s,r[i]? =some s→AA s.B∧AA s.A) (λn k b=>by
  simp only[Gc];rw[ES b];rfl) (λn k b=>by
  simp only[Gc,Dt];rw[Ei b,uG,A9 b];simp only[uF,BE (show k<4611686018427387904 by omega)];by_cases g:(r[k]).B≤(r[k]).A∧0≤(r[k]).B∧(r[k]).A≤1125899906842624
  ·rw[uK g.1,uM (show ¬(r[k]).B<0 by omega),uM (show ¬1125899906842624<(r[k]).A by omega)];refine .inr ⟨λs c=>?_,rfl⟩;rw[uU b] at c;cases c;unfold AA;omega
  ·have:((!decide ((r[k]).B≤(r[k]).A)||decide ((r[k]).B<0))||decide (1125899906842624<(r[k]).A))=true:=by
    simp only[uZ,vE,vC,uY];omega
   rw[this];exact .inl rfl) N 0 (by omega) (uO _) with h|⟨h1,h2⟩
 ·exact .inl h
 ·refine .inr ⟨λs c=>?_,h2⟩;obtain⟨i,d⟩:=vY.1 c;exact h1 i (uO _) (uV.1 d).1 s d
def Yw {N:Nat}(j:9007199254740992<N) (b:AF) (o:b.E.length≤4398046511104) (c:Ci):∃v,Li N b c=some v∧(v=true→Lt c):=by
 unfold Li;cases l:((((decide (c.Bm<0)||decide (1073741824<c.Bm))||decide (c.P<0))||decide (16777216<c.P))||decide (24<(c.Am.length:Int)))
 ·simp only[vH,vC] at l;rw[uH];rcases Hg c.Am.length (FZ N b c (HG N)) (HG N) (λi=>∀r,c.Am[i]? =some r→∀s∈r,AA s.B∧AA s.A) (λn k a=>by
   simp only[FZ];rw[ES a];rfl) (λn k a=>by
   simp only[FZ];rw[Ei a,uG,A9 a,uF];by_cases m:(c.Am[k]).length=b.E.length
   ·rw[show decide (((c.Am[k]).length:Int)≠(b.E.length:Int))=false by simp [m],uH];rcases tM (N:=N) (Ji N (k:Int) (FZ N b c (HG N) n)) (c.Am[k]) (by omega) j with h|⟨h1,h2⟩
    ·exact .inl h
    ·refine .inr ⟨λr d=>?_,?_⟩
     ·rw[uU a] at d;cases d;exact h1
     ·rw[h2];unfold Ji;rw[BE (by omega)]
   ·rw[show decide (((c.Am[k]).length:Int)≠(b.E.length:Int))=true by simp;omega,uG];exact .inl rfl) N 0 (by omega) (uO _) with h|⟨h1,h2⟩
  ·exact⟨false,h,λh=>by cases h⟩
  ·refine⟨true,h2,λ_=>⟨by omega,by omega,λr d=>?_⟩⟩;obtain⟨i,g⟩:=vY.1 d;exact h1 i (uO _) (uV.1 g).1 r g
 ·exact⟨false,rfl,λh=>by cases h⟩
def gR {N:Nat}{c:Ci}(k:Lt c) {t:Int}(o:0≤t∧t≤33554432) {P:Nat}(p:P≤64):∃l,K0 N c t (P:Int)=some l∧∀s∈l,AA s.B∧AA s.A:=by
 obtain⟨q,u,m⟩:=k;have b:∀s∈List.replicate ((P:Nat):Int).toNat (⟨0,0⟩:AB),AA s.B∧AA s.A:=λs a=>by
  rw[List.eq_of_mem_replicate a];exact⟨⟨by decide,by decide⟩,⟨by decide,by decide⟩⟩
 unfold K0 Kz;by_cases h0:(P:Int)<1∨64<(P:Int)
 ·rw[show (decide ((P:Int)<1)||decide (64<(P:Int)))=true by simp only[uZ,uY];exact h0,uG];exact⟨_,rfl,λs a=>by cases a⟩
 ·rw[show (decide ((P:Int)<1)||decide (64<(P:Int)))=false by simp only[vH,vC];omega,uH,show Mn (P:Int) (P:Int) 16=true by simp [Mn];omega];simp only[chk,uG];by_cases j:t<c.P
  ·rw[uK j,uG];exact⟨_,rfl,b⟩
  ·rw[uM j,uH,CT (by omega) (by omega),uK (show 0≤t-c.P by omega),wW];by_cases d:t-c.P<c.Am.length
   ·obtain⟨r,n,g⟩:=Tj (l:=c.Am) (i:=t-c.P) (by omega) d;rw[uK d,uG,n,uF];refine⟨_,rfl,λs a=>?_⟩;unfold aC at a;rcases wF.1 a with a|a
    ·exact m r (wO g) s (zM a)
    ·exact b s (zN a)
   ·rw[uM d,uH];exact⟨_,rfl,b⟩
structure gU (b:AF) (h:BV) (m:Nat):Prop where
 hour:0≤h.I∧h.I≤16777216+(m:Int)
 vol:h.K.length=b.E.length
 vols:∀v∈h.K,H6 v
 que:OK b.E.length h.I h.N
 kn:Lc b h.D
 len:h.N.length≤4398046511104+m*6400
def PI (a:List BT) (i:Nat):BT:=(a[i]?).getD ⟨[],[],[],[],[]⟩
def RL (a:List BT):Prop:=∀x∈a,x.Bc.length≤6∧x.Bb.length≤6∧x.Ag.length≤6∧∀t∈x.Ag,AA t.Al
def RL.at_ {a:List BT}(h:RL a) (i:Nat):(PI a i).Bc.length≤6∧(PI a i).Bb.length≤6∧(PI a i).Ag.length≤6∧∀t∈(PI a i).Ag,AA t.Al:=by
 unfold PI;cases e:a[i]? with
 |none=>exact⟨uO _,uO _,uO _,λt b=>by cases b⟩
 |some x=>exact h x (wO e)
def Vt (N:Nat) (b:AF) (a:List BT) (sure:List Bool) (c:Ci) (i:Nat) (h:BV):BV×List AB:=match K0 N c h.I (b.E.length:Int) with
 |some r=>match Jn N b h (PI a i) sure r with
  |some x=>(x.1,x.2.1)
  |none=>(h,[])
 |none=>(h,[])
def Xe {N:Nat}(u:18446744073709551616<N) {b:AF}(n:L4 N b) (j:b.E.length≤6) {a:List BT}(w:RL a) (sure:List Bool) {c:Ci}(y:Lt c) (i:Nat) {h:BV}{m:Nat}(D:m≤50) (d:gU b h m):
  ∃r x,K0 N c h.I (b.E.length:Int)=some r∧Jn N b h (PI a i) sure r=some x∧Vt N b a sure c i h=(x.1,x.2.1)∧gU b x.1 (m+1):=by
 have F:=d.hour;have G:=d.len;have l:=n.head.pl;obtain⟨r,o,z⟩:=gR (N:=N) y (t:=h.I) (by omega) l;obtain⟨H,J,K,A⟩:=w.at_ i;obtain⟨x,p,g,q⟩:=XB u n d.vol d.vols (by omega) d.que d.kn (in_:=PI a i) (by omega) (by omega) (by omega) A (sure:=sure) z (by omega);have s:b.E.length*((PI a i).Ag.length+101)≤6*107:=yY j (by omega);refine⟨r,x,o,p,by unfold Vt;rw[o];simp only;rw[p],⟨?_,g.vol,λv B=>?_,by rw[g.hour];exact g.que,g.lks,by omega⟩⟩
 ·rw[g.hour];omega
 ·obtain⟨k,C⟩:=vY.1 B;exact(g.vols k v C).1
def Wg (t:Dr) (a:List AB):Bool:=decide (0≤t.Ah)&&decide (t.Ah<(a.length:Int))&&decide (t.Bd<((a[t.Ah.toNat]?).getD ⟨0,0⟩).A)
def PP (N:Nat) (b:AF) (a:List BT) (sure:List Bool) (c:Ci) (t:Dr):Nat→Nat→BV→Int
 |0,_,_=> -1
 |n+1,i,h=>if Wg t (Vt N b a sure c i h).2=true then (i:Int) else PP N b a sure c t n (i+1) (Vt N b a sure c i h).1
def Up (N:Nat) (b:AF) (a:List BT) (sure:List Bool) (c:Ci) (t:Dr):∀n i h,PP N b a sure c t n i h= -1∨((i:Int)≤PP N b a sure c t n i h∧PP N b a sure c t n i h<(i+n:Nat))
 |0,i,h=> .inl rfl
 |n+1,i,h=>by
  unfold PP;split
  ·right;omega
  ·rcases Up N b a sure c t n (i+1) (Vt N b a sure c i h).1 with e|⟨e1,e2⟩
   ·exact .inl e
   ·exact .inr ⟨by omega,by omega⟩
def aB (N:Nat) (b:AF) (a:List BT) (sure:List Bool) (c:Ci) (t:Dr):∀m n i h,m≤n→PP N b a sure c t m i h=if 0≤PP N b a sure c t n i h∧PP N b a sure c t n i h<(i+m:Nat) then PP N b a sure c t n i h else -1
 |0,n,i,h,_=>by
  rcases Up N b a sure c t n i h with e|⟨e1,e2⟩
  ·rw[e];rfl
  ·rw[uI (by omega)];rfl
 |m+1,0,i,h,d=>by omega
 |m+1,n+1,i,h,d=>by
  unfold PP;split
  ·rw[uJ (by omega)]
  ·rw[aB N b a sure c t m n (i+1) _ (by omega)];have e:((i+1+m:Nat):Int)=((i+(m+1):Nat):Int):=by omega
   rw[e]
def nN (N:Nat) (t:Dr) (i:Int) (b:List AB) (a d:Int):Gr N t i b a d=some (cond (Wg t b) (false,(i,i)) (true,(a,d))):=by
 unfold Gr Wg;by_cases h:0≤t.Ah∧t.Ah<b.length
 ·obtain⟨x,g,c⟩:=Tj (l:=b) h.1 h.2;rw[uK h.1,uK h.2,xB,uG,g,c];simp only[uF,wW,vM];cases decide (t.Bd<x.A)<;>rfl
 ·have e:(decide (0≤t.Ah)&&decide (t.Ah<(b.length:Int)))=false:=by
   rw[zO];simp only[vC];omega
  rw[e];rfl
abbrev sD (N:Nat) (t:Dr):(Int×(List AB))→(Int×Int)→Option (Bool×(Int×Int)):=λa b=>Gr N t a.1 a.2 b.1 b.2
def XU {N:Nat}(w:18446744073709551616<N) {b:AF}(y:L4 N b) (q:b.E.length≤6) {a:List BT}(z:RL a) (u:a.length≤100) (sure:List Bool) {c:Ci}(A:Lt c) (t:Dr) (L:Nat) (C:L≤40) (s:Int×Int):
  ∀(n f i:Nat) (h:BV),i+n=L→n<f→gU b h i→Dm N (sD N t) (L:Int) a b sure c f (i:Int) h.I h.K h.N h.D s=some (if PP N b a sure c t n i h= -1 then (true,s) else (false,(PP N b a sure c t n i h,PP N b a sure c t n i h)))
 |0,f,i,h,e,F,B=>by
  obtain⟨U,rfl⟩:∃U,f=U+1:=⟨f-1,by omega⟩
  simp only[Dm];rw[ES (by omega),uH];rfl
 |n+1,f,i,h,e,F,B=>by
  obtain⟨U,rfl⟩:∃U,f=U+1:=⟨f-1,by omega⟩
  obtain⟨r,x,G,H,J,M⟩:=Xe w y q z sure A i (by omega) B;have d:∀j k l m o,(⟨j,k,l,m,o⟩:BT)=PI a i→IK N (sD N t) b sure c (i:Int) h.I h.K h.N h.D s (Dm N (sD N t) (L:Int) a b sure c U) j k l m o=some (if PP N b a sure c t (n+1) i h= -1 then (true,s) else (false,(PP N b a sure c t (n+1) i h,PP N b a sure c t (n+1) i h))):=by
   intro j k l m o v;unfold IK;rw[G,uF,v,show(⟨h.I,h.K,h.N,h.D⟩:BV)=h from rfl,H,uF];rw[show sD N t ((i:Int),x.2.1) s=_ from nN N t _ _ _ _,uF];unfold PP;rw[J];cases Q:Wg t x.2.1
   ·simp only[uH,uG,BE (show i<4611686018427387904 by omega),wS,if_false];exact XU w y q z u sure A t L C s n U (i+1) x.1 (by omega) (by omega) M
   ·simp only[uG,uH,if_true];rw[uI (by omega)]
  simp only[Dm];rw[Ei (show i<L by omega),uG];by_cases p:i<a.length
  ·rw[Ei p,uG,A9 p,uF];exact d _ _ _ _ _ (by unfold PI;rw[uU p];rfl)
  ·rw[ES (by omega),uH];exact d _ _ _ _ _ (by unfold PI;rw[wG (by omega)];rfl)
def V6 (a k:Int):Int:=if 0≤k∧(a<0∨k<a) then k else a
def Tr (f:Ci→Int) (a:Int) (l:List Ci):Int:=l.foldl (λa c=>V6 a (f c)) a
def dB {N:Nat}(C:18446744073709551616<N) {b:AF}(D:L4 N b) (p:b.E.length≤6) {d:List BT}(F:RL d) (q:d.length≤100) (sure:List Bool) (t:Dr) {h:BV}(G:gU b h 0) (a:List Ci) (H:∀c∈a,Lt c) (I:a.length≤100) (n:Nat) (U:n≤40):
  DK N b h d sure t a (D9 N) N 0 (n:Int) (-1)=some ⟨Tr (λc=>PP N b d sure c t n 0 h) (-1) a,false⟩:=by
 obtain⟨⟨L,g⟩,⟨j,m⟩,e⟩:=Gi a.length (λf k (s:Int×Int)=>DK N b h d sure t a (D9 N) f k s.1 s.2) (λs=>D9 N s.2) (λk s=>s.2=Tr (λc=>PP N b d sure c t n 0 h) (-1) (a.take k)∧((s.1=n∧s.2= -1)∨(s.1=s.2∧0≤s.2∧s.2<n))) (λf k s l=>by
  simp only[DK];rw[ES l];rfl) (λf k s u l=>by
  obtain⟨L,g⟩:=s;obtain⟨j,m⟩:=u;have J:g=Tr (λc=>PP N b d sure c t n 0 h) (-1) (a.take k):=j;have m:(L=n∧g= -1)∨(L=g∧0≤g∧g<n):=m;simp only[DK];rw[Ei l,uG,A9 l];simp only[uF,LE,JQ,BE (show k<4611686018427387904 by omega)];have v:=H _ (vA l);obtain⟨M,K,w⟩:∃M:Nat,L=M∧M≤n:=⟨L.toNat,by omega,by omega⟩
  subst K;have x:=XU C D p F q sure v t M (by omega) ((M:Int),g) M N 0 h (by omega) (by omega) G;have x:Jj N h (M:Int) d b sure a[k] (λy z=>Gr N t y.1 y.2 z.1 z.2) ((M:Int),g)=_:=x;rw[x,uF];have i:=aB N b d sure a[k] t M n 0 h w;have Q:=Up N b d sure a[k] t n 0 h;have A:=Up N b d sure a[k] t M 0 h;have B:Tr (λc=>PP N b d sure c t n 0 h) (-1) (a.take (k+1))=V6 g (PP N b d sure a[k] t n 0 h):=by
   rw[yQ l,J];unfold Tr;rw[List.foldl_append];rfl
  by_cases o:PP N b d sure a[k] t M 0 h= -1
  ·rw[uJ o];refine⟨((M:Int),g),⟨?_,m⟩,rfl⟩;rw[B];show g=V6 g _
   rw[o] at i;unfold V6;split at i
   ·omega
   ·rw[uI (by omega)]
  ·rw[uI o];refine⟨(PP N b d sure a[k] t M 0 h,PP N b d sure a[k] t M 0 h),⟨?_,.inr ⟨rfl,?_⟩⟩,rfl⟩
   ·rw[B];show PP N b d sure a[k] t M 0 h=V6 g _
    split at i
    ·rw[i];unfold V6;rw[uJ (by omega)]
    ·exact absurd i o
   ·show 0≤PP N b d sure a[k] t M 0 h∧PP N b d sure a[k] t M 0 h<n
    omega) N 0 ((n:Int), -1) ⟨rfl,.inl ⟨rfl,rfl⟩⟩ (by omega) (uO _)
 rw[wQ] at j;have j:g=_:=j;have e:DK N b h d sure t a (D9 N) N 0 (n:Int) (-1)=D9 N g:=e;rw[e,j];rfl
def kF {N:Nat}(o:1000<N) (b:AF) (c:List Ci) (a:List BT):∃v,Js N b c a=some v∧(v=true→b.E.length≤6∧b.D.length≤6∧c.length≤3∧a.length≤6∧∀x∈a,x.Bc.length≤6∧x.Bb.length≤6∧x.Ag.length≤6):=by
 unfold Js;cases l:(((decide (6<(b.E.length:Int))||decide (6<(b.D.length:Int)))||decide (3<(c.length:Int)))||decide (6<(a.length:Int)))
 ·simp only[vH,vC] at l;rw[uH];rcases Hg a.length (FA N a (HY N)) (HY N) (λi=>∀x,a[i]? =some x→x.Bc.length≤6∧x.Bb.length≤6∧x.Ag.length≤6) (λn k d=>by
   simp only[FA];rw[ES d];rfl) (λn k d=>by
   simp only[FA];rw[Ei d,uG,A9 d];simp only[uF,Fb,Lk,BE (show k<4611686018427387904 by omega)];cases m:((((decide (6<((a[k]).Bc.length:Int))||decide (6<((a[k]).Bb.length:Int)))||decide (6<((a[k]).Ag.length:Int)))||decide (6<((a[k]).Bq.length:Int)))||decide (8<((a[k]).Am.length:Int)))
   ·simp only[vH,vC] at m;refine .inr ⟨λx g=>?_,rfl⟩;rw[uU d] at g;cases g;omega
   ·exact .inl rfl) N 0 (by omega) (uO _) with h|⟨h1,h2⟩
  ·exact⟨false,h,λh=>by cases h⟩
  ·refine⟨true,h2,λ_=>⟨by omega,by omega,by omega,by omega,λx g=>?_⟩⟩;obtain⟨i,j⟩:=vY.1 g;exact h1 i (uO _) (uV.1 j).1 x j
 ·exact⟨false,rfl,λh=>by cases h⟩
def eC {N:Nat}(l:9007199254740992<N) (b:AF) (m:b.E.length≤4398046511104) (a:List Ci) (d:a.length≤4398046511104):∃v,JW N b a=some v∧(v=true→∀c∈a,Lt c):=by
 unfold JW;rcases Hg a.length (Eu N b a (G5 N)) (G5 N) (λi=>∀c,a[i]? =some c→Lt c) (λn k g=>by
  simp only[Eu];rw[ES g];rfl) (λn k g=>by
  simp only[Eu];obtain⟨v,o,p⟩:=Yw l b m a[k];rw[Ei g,uG,A9 g,uF,o,uF,BE (by omega)];cases v
  ·exact .inl rfl
  ·refine .inr ⟨λc d=>?_,rfl⟩;rw[uU g] at d;cases d;exact p rfl) N 0 (by omega) (uO _) with h|⟨h1,h2⟩
 ·exact⟨false,h,λh=>by cases h⟩
 ·refine⟨true,h2,λ_ c d=>?_⟩;obtain⟨i,j⟩:=vY.1 d;exact h1 i (uO _) (uV.1 j).1 c j
def O8 (c:Ci) (t:Int) (i:Nat):AB:=if c.P≤t then (match c.Am[(t-c.P).toNat]? with|some r=>(r[i]?).getD ⟨0,0⟩|none=>⟨0,0⟩) else ⟨0,0⟩
def mD {N:Nat}(u:18446744073709551616<N) {c:Ci}(o:Lt c) {t:Int}(v:0≤t∧t≤33554432) (i:Nat) (a:Int→Int→Option (List AB)):DT N c t (i:Int) a N 0 0 0=a (O8 c t i).B (O8 c t i).A:=by
 obtain⟨w,x,y⟩:=o;obtain⟨s,p,e⟩:=Gi c.Am.length (λn k (s:AB)=>DT N c t (i:Int) a n k s.B s.A) (λs=>a s.B s.A) (λk s=>s=if t-c.P<(k:Int) then O8 c t i else ⟨0,0⟩) (λn k s b=>by
  simp only[DT];rw[ES b];rfl) (λn k s m b=>by
  simp only[DT];rw[Ei b,uG,A9 b,CT (n:=t-c.P) (by omega) (by omega)];simp only[uF,Is,BE (show k<4611686018427387904 by omega)];by_cases d:c.P≤t∧t-c.P=(k:Int)
  ·have g:O8 c t i=((c.Am[k])[i]?).getD ⟨0,0⟩:=by
    unfold O8;rw[uJ d.1,d.2,xT,uU b]
   rw[uK d.1,uK d.2];simp only[xB,uG,uF];generalize c.Am[k]=r at g
   by_cases l:i<r.length
   ·rw[Ei l,uG,A9 l,uF];rw[uU l,vM] at g;exact⟨_,by rw[uJ (by omega),g],rfl⟩
   ·rw[ES (by omega),uH];rw[wG (by omega),Option.getD_none] at g;refine⟨s,?_,rfl⟩;rw[m,g,uI (by omega),uJ (by omega)]
  ·have q:(decide (c.P≤t)&&decide (t-c.P=(k:Int)))=false:=by
    rw[←xQ];simp only[uL,uY];exact d
   rw[q];refine⟨s,?_,rfl⟩;rw[m];by_cases j:t-c.P<(k:Int)
   ·rw[uJ j,uJ (by omega)]
   ·rw[uI j,uI (by omega)]) N 0 ⟨0,0⟩ (by
  by_cases j:t-c.P<((0:Nat):Int)
  ·rw[uJ j];unfold O8;rw[uI (by omega)]
  ·rw[uI j]) (by omega) (uO _)
 rw[show DT N c t (i:Int) a N 0 0 0=a s.B s.A from e,p];split
 ·rfl
 ·have:O8 c t i=⟨0,0⟩:=by
   unfold O8;split
   ·rw[wG (by omega)]
   ·rfl
  rw[this]
def sX {N:Nat}(u:18446744073709551616<N) {c:Ci}(o:Lt c) {t:Int}(v:0≤t∧t≤33554432) {P:Nat}(z:P≤64):KB N c t (P:Int)=K0 N c t (P:Int):=by
 have d:=o;obtain⟨A,B,C⟩:=o;unfold KB K0 Kz;by_cases h0:(P:Int)<1∨64<(P:Int)
 ·rw[show (decide ((P:Int)<1)||decide (64<(P:Int)))=true by simp only[uZ,uY];exact h0,uG,uG]
 ·rw[show (decide ((P:Int)<1)||decide (64<(P:Int)))=false by simp only[vH,vC];omega,uH,uH,show Mn (P:Int) (P:Int) 16=true by simp [Mn];omega];simp only[chk,uG,xT];obtain⟨l,b,e⟩:=Gi P (λn k l=>DU N c t (P:Int) (DV N) n l k) (DV N) (λk l=>l=(List.range k).map (O8 c t)) (λn k l g=>by
   simp only[DU];rw[ES g];rfl) (λn k l a g=>by
   have p:l.length=k:=by rw[a,vQ,yG]
   refine⟨l++[O8 c t k],by rw[List.range_succ,xX,a];rfl,?_⟩;simp only[DU];rw[Ei g,uG,mD u d v k];unfold Hy;rw[Kh (by omega),BE (by omega)]) N 0 [] rfl (by omega) (uO _)
  rw[show DU N c t (P:Int) (DV N) N [] 0=DV N l from e,b];unfold DV;have q:(∀i,i<P→O8 c t i=⟨0,0⟩)→some ((List.range P).map (O8 c t))=some (List.replicate P (⟨0,0⟩:AB)):=λw=>by
   congr 1;refine zE λi=>?_;rw[xG,List.getElem?_replicate];by_cases a:i<P
   ·rw[yT a,uJ a];exact uP some (w i a)
   ·rw[wG (by rw[yG];omega),uI a];rfl
  by_cases s:t<c.P
  ·rw[uK s,uG];exact q λi a=>by unfold O8;rw[uI (by omega)]
  ·rw[uM s,uH,CT (by omega) (by omega),uK (show 0≤t-c.P by omega),wW];by_cases b:t-c.P<c.Am.length
   ·obtain⟨r,x,j⟩:=Tj (l:=c.Am) (i:=t-c.P) (by omega) b;rw[uK b,uG,x,uF];congr 1;have y:∀i,O8 c t i=(r[i]?).getD ⟨0,0⟩:=λi=>by
     unfold O8;rw[uJ (by omega),j]
    refine zE λi=>?_;unfold aC;rw[xG,List.length_replicate];by_cases a:i<P
    ·rw[yT a];show some (O8 c t i)=_
     rw[y];by_cases m:i<r.length
     ·rw[List.getElem?_append_left (by rw[vV];omega),wU a,uU m];rfl
     ·rw[List.getElem?_append_right (by rw[vV];omega),wX,List.getElem?_replicate,vV,uJ (by omega),wG (by omega)];rfl
    ·rw[wG (by rw[yG];omega),wG (by rw[wC,vV,xC,List.length_replicate];omega)];rfl
   ·rw[uM b,uH];exact q λi a=>by
     unfold O8;rw[uJ (by omega),wG (by omega)]
def Vi {N:Nat}(w:18446744073709551616<N) {b:AF}(z:L4 N b) (B:b.E.length≤6) {a:List BT}(M:RL a) (Q:a.length≤100) (sure:List Bool) {c:Ci}(J:Lt c) {t:Dr}(j:0≤t.Ah∧t.Ah<b.E.length) (L:Nat) (hL:L≤24):
  ∀(n f i:Nat) (h:BV),i+n=L→n<f→gU b h i→Cs N b t c a sure (L:Int) (FK N) f (i:Int) h.I h.K h.N h.D=some (PP N b a sure c t n i h)
 |0,f,i,h,e,hf,d=>by
  obtain⟨g,rfl⟩:∃g,f=g+1:=⟨f-1,by omega⟩
  simp only[Cs];rw[ES (by omega)];rfl
 |n+1,f,i,h,e,hf,d=>by
  obtain⟨g,rfl⟩:∃g,f=g+1:=⟨f-1,by omega⟩
  obtain⟨r,x,X,Y,eh,hx⟩:=Xe w z B M sure J i (by omega) d;have ho:=d.hour;have aa:=d.len;have C:=z.head.pl;obtain⟨r',F,G⟩:=gR (N:=N) J (t:=h.I) (by omega) C;have:r'=r:=by rw[X] at F;exact(uX F).symm
  subst this;obtain⟨a1,a2,a3,Z⟩:=M.at_ i;have rs:=oF w z d.vol d.vols (by omega) d.que d.kn (in_:=PI a i) (by omega) (by omega) (by omega) Z (sure:=sure) G (by omega);obtain⟨v,H,hS,_⟩:=XB w z d.vol d.vols (by omega) d.que d.kn (in_:=PI a i) (by omega) (by omega) (by omega) Z (sure:=sure) G (by omega);have:v=x:=by rw[Y] at H;exact(uX H).symm
  subst this;have k:∀m o p q s,(⟨m,o,p,q,s⟩:BT)=PI a i→Gk N b t c sure (i:Int) h.I h.K h.N h.D (Cs N b t c a sure (L:Int) (FK N) g) m o p q s=some (PP N b a sure c t (n+1) i h):=by
   intro m o p q s U;unfold Gk;rw[sX w J (by omega) C,X,uF,U,show(⟨h.I,h.K,h.N,h.D⟩:BV)=h from rfl,rs,Y,uF];obtain⟨y,ey,V⟩:=Tj (l:=v.2.1) (i:=t.Ah) j.1 (by rw[hS.pk.1];exact j.2);rw[ey,uF];have W:Wg t v.2.1=decide (t.Bd<y.A):=by
    unfold Wg;rw[V,uK j.1,hS.pk.1,uK j.2];rfl
   unfold PP;rw[eh];show cond _ _ _=some (if Wg t v.2.1=true then (i:Int) else PP N b a sure c t n (i+1) v.1)
   rw[W];cases decide (t.Bd<y.A)
   ·simp only[uH,BE (show i<4611686018427387904 by omega),wS,if_false];exact Vi w z B M Q sure J j L hL n g (i+1) v.1 (by omega) (by omega) hx
   ·rfl
  simp only[Cs];rw[Ei (show i<L by omega),uK (show(i:Int)<24 by omega),xB,uG];by_cases u:i<a.length
  ·rw[Ei u,uG,A9 u,uF];exact k _ _ _ _ _ (by unfold PI;rw[uU u];rfl)
  ·rw[ES (by omega),uH];exact k _ _ _ _ _ (by unfold PI;rw[wG (by omega)];rfl)
def jF {N:Nat}(j:18446744073709551616<N) {b:AF}(k:L4 N b) (d:b.E.length≤6) {a:List BT}(l:RL a) (g:a.length≤100) (sure:List Bool) {c:Ci}(m:Lt c) {t:Dr}(i:0≤t.Ah∧t.Ah<b.E.length) {h:BV}(o:gU b h 0) (n:Nat) (p:n≤24):Hx N b t h c a sure (n:Int)=some (PP N b a sure c t n 0 h):=
 Vi j k d l g sure m i n p n N 0 h (by omega) (by omega) o
def T0 {N:Nat}(u:18446744073709551616<N) {b:AF}(a:Int) {t:Dr}(m:ix b.Ad a=some t) (h:BV) (d:List BT) (sure:List Bool) (ahead:Int) (w:Ci→Int) (l:List Ci) (v:l.length≤100) (o:∀c∈l,Hx N b t h c d sure ahead=some (w c)):Ed N b a h d sure ahead l=some ⟨Tr w (-1) l,false⟩:=by
 unfold Ed;obtain⟨s,p,e⟩:=Gi l.length (λn k s=>DC N b a h d sure ahead l (Ec N) n s k) (Ec N) (λk s=>s=Tr w (-1) (l.take k)) (λn k s i=>by
  simp only[DC];rw[ES i];rfl) (λn k s q i=>by
  refine⟨V6 s (w l[k]),?_,?_⟩
  ·rw[J3 i,q];unfold Tr;rw[List.foldl_append];rfl
  ·simp only[DC];rw[Ei i,uG,m,A9 i,uF,uF,o _ (vA i),uF];unfold Hl V6;rw[BE (by omega)];by_cases j:0≤w l[k]∧(s<0∨w l[k]<s)
   ·rw[uJ j,show(decide (0≤w l[k])&&(decide (s<0)||decide (w l[k]<s)))=true by simp only[uL,uZ,uY];exact j,uG]
   ·rw[uI j,show(decide (0≤w l[k])&&(decide (s<0)||decide (w l[k]<s)))=false by rw[←xQ];simp only[uL,uZ,uY];exact j,uH]) N 0 (-1) rfl (by omega) (uO _)
 rw[show DC N b a h d sure ahead l (Ec N) N (-1) 0=_ from e,p,wQ];rfl
def iW {N:Nat}(z:18446744073709551616<N) {b:AF}(I:L4 N b) (C:∀t∈b.Ad,TY b t) (p:b.E.length≤6) {g:List BT}(A:RL g) (q:g.length≤100) (sure:List Bool) {h:BV}(J:gU b h 0) (d:Int) (i:List Ci) (u:∀c∈i,Lt c) (D:i.length≤100) (ahead:Int) (Z:ahead≤24):
  ∃v,KX N b d h i g sure ahead=some v∧Hw N b d h i g sure ahead=some v:=by
 by_cases w:0≤d∧d<b.Ad.length
 ·obtain⟨t,et,F⟩:=Tj (l:=b.Ad) w.1 w.2;have G:=(C t (wO F)).place;have U:∀c∈([⟨0,0,[]⟩]:List Ci),Lt c:=λc u=>by
   rw[wI.1 u];exact⟨⟨by decide,by decide⟩,uO _,λr V=>by cases V⟩
  have j:∀l:List Ci,(∀c∈l,Lt c)→l.length≤100→Fh N b h g sure ahead t l=Ed N b d h g sure ahead l∧∃v,Fh N b h g sure ahead t l=some v:=λl K o=>by
   rcases (by omega:ahead<0∨0≤ahead) with h0|h0
   ·have x:Fh N b h g sure ahead t l=some ⟨-1,false⟩:=by
     unfold Fh;obtain⟨s,W,e⟩:=Gi l.length (λf k (s:Int×Int)=>DK N b h g sure t l (D9 N) f k s.1 s.2) (λs=>D9 N s.2) (λk s=>s=(min ahead 24, -1)) (λf k s B=>by
      simp only[DK];rw[ES B];rfl) (λf k s A B=>by
      refine⟨_,rfl,?_⟩;subst A;simp only[DK];rw[Ei B,uG,A9 B];simp only[uF,LE,JQ,BE (show k<4611686018427387904 by omega)];have X:Jj N h (min ahead 24) g b sure l[k] (λM Q=>Gr N t M.1 M.2 Q.1 Q.2) (min ahead 24, -1)=some (true,(min ahead 24, -1)):=by
       obtain⟨m,rfl⟩:∃m,N=m+1:=⟨N-1,by omega⟩
       unfold Jj;simp only[Dm];rw[uM (show ¬(0:Int)<min ahead 24 by omega)];rfl
      rw[X,uF];rfl) N 0 (min ahead 24, -1) rfl (by omega) (uO _)
     rw[show DK N b h g sure t l (D9 N) N 0 (min ahead 24) (-1)=_ from e,W];rfl
    have H:Ed N b d h g sure ahead l=some ⟨-1,false⟩:=by
     rw[T0 z d et h g sure ahead (λ_=> -1) l o λc _=>by
      obtain⟨m,rfl⟩:∃m,N=m+1:=⟨N-1,by omega⟩
      unfold Hx;simp only[Cs];rw[uM (show ¬(0:Int)<ahead by omega)];rfl]
     have:∀l:List Ci,Tr (λ_=> -1) (-1) l= -1:=λl=>by
      induction l with
      |nil=>rfl
      |cons a l Y=>exact Y
     rw[this]
    exact⟨x.trans H.symm,_,x⟩
   ·obtain⟨n,rfl⟩:∃n:Nat,ahead=n:=⟨ahead.toNat,by omega⟩
    have x:Fh N b h g sure (n:Int) t l=some ⟨Tr (λc=>PP N b g sure c t n 0 h) (-1) l,false⟩:=by
     unfold Fh;rw[show min (n:Int) 24=(n:Int) by omega];exact dB z I p A q sure t J l K o n (by omega)
    have H:=T0 z d et h g sure (n:Int) (λc=>PP N b g sure c t n 0 h) l o λc u=>jF z I p A q sure (K c u) G J n (by omega);exact⟨x.trans H.symm,_,x⟩
  unfold KX Hw;rw[show (decide (d<0)||decide ((b.Ad.length:Int)≤d))=false by simp only[vH,vC];omega];simp only[uH,et,uF];cases decide ((i.length:Int)=0)
  ·obtain⟨e,v,y⟩:=j i u D;rw[uH,uH,←e];exact⟨v,y,y⟩
  ·obtain⟨e,v,y⟩:=j _ U (by decide);rw[uG,uG,←e];exact⟨v,y,y⟩
 ·unfold KX Hw;rw[show (decide (d<0)||decide ((b.Ad.length:Int)≤d))=true by simp only[uZ,uY];omega];exact⟨_,rfl,rfl⟩
end Go.Proofs.YtibidnaedddfdaaGreat
