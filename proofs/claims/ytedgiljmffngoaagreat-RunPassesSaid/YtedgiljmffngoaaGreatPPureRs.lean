import Derived.Test.YtedgiljmffngoaaGreatPPureT1
import Derived.Test.YtedgiljmffngoaaGreatPPureC2
namespace Go.Proofs.YtedgiljmffngoaaGreat
set_option linter.all false
open Go.RowKit
def Q4.at_:∀{l:List AI}{o:List (List Int)},Q4 l o→∀(j:Nat) (b:j<l.length),∃x,(QA o (l.take j))[(l[j]).D.toNat]? =some x∧Wk (l[j]).K x
 |m::l,o,b,0,_=>b.1
 |m::l,o,b,j+1,a=>Q4.at_ (l:=l) b.2 j (by simpa using a)
def Xs {H:Int}{W:Nat}:∀{l:List Int}{i:Nat}{m:AI},m∈Tm H W i l→∃(k:Nat) (n:Int),n∈l∧0<n∧m=⟨H, -1,(k:Int), -4,v1 W n⟩
 |[],_,m,g=>by cases g
 |a::l,i,m,g=>by
  rw[Tm] at g;rcases Aa0.1 g with g|g
  ·split at g
   ·rename_i h0;exact⟨i,a,Aax ..,h0,Abi.1 g⟩
   ·cases g
  ·obtain⟨k,n,b,c,d⟩:=Xs g;exact⟨k,n,Aa1 _ b,c,d⟩
def YT {P W:Nat}{t:Int}{q:List AO}(a:QX P W q) {p:Nat}:∀k,k≤q.length→(Q3 W t (q.take k) p).length=W∧∀x∈Q3 W t (q.take k) p,0≤x
 |0,_=>⟨by simp [Q3],λx g=>(PX.zero W).nn x g⟩
 |k+1,i=>by
  obtain⟨b,c⟩:=YT a k (by omega);rw[Rq (by omega)];split
  ·have d:=(a _ (Aap (show k<q.length by omega))).1;exact⟨Ki b d.len,PV c d.nn⟩
  ·exact⟨b,c⟩
def QD (o:Nat) (ms:List AI):Int:=(ms.map λm=>m.K.getD o 0).sum
def Y6 {W o:Nat}{x y:List Int}(c:x.length=W) (d:y.length=W) (g:o<W):(IE x y).getD o 0=x.getD o 0-y.getD o 0:=by
 have a:o<x.length:=by omega
 have b:o<y.length:=by omega
 unfold IE;simp [Aa5,Acl,a,b]
def Y8 {W o:Nat}{x y:List Int}(c:x.length=W) (d:y.length=W) (g:o<W):(GA x y).getD o 0=x.getD o 0+y.getD o 0:=by
 have a:o<x.length:=by omega
 have b:o<y.length:=by omega
 unfold GA;simp [Aa5,Acl,a,b]
def WZ (o:Nat) (w:List (List Int)):Int:=(w.map λx=>x.getD o 0).sum
def Tx (o:Nat) (q:List AO):Int:=(q.map λl=>l.K.getD o 0).sum
def dW (o:Nat) (a b:List AO):Tx o (a++b)=Tx o a+Tx o b:=by unfold Tx;rw[Abt,Abq]
def dX {o:Nat}{w:List (List Int)}{k:Nat}{x y:List Int}(a:w[k]? =some x):WZ o (upd w (k:Int) y)=WZ o w-x.getD o 0+y.getD o 0:=by
 have b:=(Aai.1 a).1;have c:=(Aai.1 a).2;unfold WZ upd;rw[Abh,List.map_set,Nr (by simpa using b),List.getElem_map,c]
def PX.bd {W:Nat}{p:List Int}(b:PX W p):∀x∈p, -2305843009213693952≤x∧x≤2305843009213693952:=λx a=>by
 have:=b.mem a;omega
def ZP (m:AI):Bool:=decide (m.B<0)
def Sx (b:AE) (H:Int) (o:Nat):∀(l:List AI),Tx o (l.filterMap (Kl b H))+QD o (l.filter ZP)=QD o l∧GX (l.filterMap (Kl b H))+KT (l.filter ZP)=KT l
 |[]=>⟨rfl,rfl⟩
 |m::l=>by
  obtain⟨i,j⟩:=Sx b H o l;have g:∀l,QD o (m::l)=m.K.getD o 0+QD o l:=λl=>by unfold QD;rw[Aaz,Aba]
  have a:∀l,KT (m::l)=m.K.sum+KT l:=λl=>by unfold KT;rw[Aaz,Aba]
  by_cases k:m.B<0
  ·rw[List.filterMap_cons_none (by unfold Kl;rw[Aab k]),Ad4 (by unfold ZP;simpa using k),g,g,a,a];omega
  ·rw[List.filterMap_cons_some (b:=(⟨A9 (A9 (H+1)+Pr b m.D.toNat m.Ap),m.B,m.K⟩:AO)) (by unfold Kl;rw[zY k]),Adz (by unfold ZP;simpa using k),g,a];have c:∀(x:AO) l,Tx o (x::l)=x.K.getD o 0+Tx o l:=λx l=>by unfold Tx;rw[Aaz,Aba]
   have d:∀(x:AO) l,GX (x::l)=x.K.sum+GX l:=λx l=>by unfold GX;rw[Aaz,Aba]
   rw[c,d];simp only;omega
def U0 {W:Nat}{l:List AI}(b:∀m∈l,PX W m.K):0≤KT l:=by
 unfold KT;exact SW (f:=λm:AI=>m.K.sum) λm a=>(b m a).sum0
def W9 {N W:Nat}(d:1000000<N) (j:W≤1000):∀{l:List AI}{out:List Int},(∀m∈l,PX W m.K)→out.length=W→(∀x∈out,0≤x)→out.sum+KT l≤2305843009213693952→(RY N out l).length=W∧(∀x∈RY N out l,0≤x)∧(RY N out l).sum=out.sum+KT (l.filter ZP)∧∀o,o<W→(RY N out l).getD o 0=out.getD o 0+QD o (l.filter ZP)
 |[],out,_,b,h0,_=>⟨b,h0,by show out.sum=out.sum+0;omega,λo _=>by show out.getD o 0=out.getD o 0+0;omega⟩
 |m::l,out,c,b,h0,q=>by
  have a:=c m (.head _);have s:=U0 (l:=l) λm a=>c m (.tail _ a);have k:∀l,KT (m::l)=m.K.sum+KT l:=λl=>by unfold KT;rw[Aaz,Aba]
  have g:∀o l,QD o (m::l)=m.K.getD o 0+QD o l:=λo l=>by unfold QD;rw[Aaz,Aba]
  rw[k] at q;have t:=a.sum0;rw[show RY N out (m::l)=RY N (if m.B<0 then (Gg N out m.K).getD [] else out) l from rfl];by_cases z:m.B<0
  ·rw[Aab z,Uv d (by omega) (by rw[a.len,b]) (λx n=>by have:=Hw h0 x n;have:=h0 x n;omega) a.bd,Abu,Ad4 (by unfold ZP;simpa using z)];have i:(GA out m.K).sum=out.sum+m.K.sum:=JE (b.trans a.len.symm);obtain⟨u,v,w,y⟩:=W9 d j (l:=l) (out:=GA out m.K) (λm a=>c m (.tail _ a)) (Ki b a.len) (PV h0 a.nn) (by omega);exact⟨u,v,by rw[w,i,k];omega,λo p=>by rw[y o p,Y8 b a.len p,g];omega⟩
  ·rw[zY z,Adz (by unfold ZP;simpa using z)];exact W9 d j (l:=l) (λm a=>c m (.tail _ a)) b h0 (by omega)
def V7 {b:AE}{H:Int}{W o:Nat}(a:o<W):∀{l:List AI}{w:List (List Int)},Ie b.A.length W w→Q4 l w→(∀m∈l,∃p,p<b.A.length∧wQ b H W p m)→WZ o (QA w l)+QD o l=WZ o w
 |[],w,_,_,_=>by show WZ o w+0=_;omega
 |m::l,w,t,y,u=>by
  obtain⟨⟨x,k,n⟩,c⟩:=y;obtain⟨p,B,q⟩:=u m (.head _);have d:=t.all x (Abf k);have i:=n.sub d;have j:w.getD m.D.toNat []=x:=by rw[Aa5,k];rfl
  have g:∀o l,QD o (m::l)=m.K.getD o 0+QD o l:=λo l=>by unfold QD;rw[Aaz,Aba]
  have v:upd w m.D (IE x m.K)=upd w ((m.D.toNat:Nat):Int) (IE x m.K):=by rw[q.fr,Abh]
  rw[j] at c;have z:=V7 a (l:=l) (w:=upd w m.D (IE x m.K)) (t.upd _ i.1) c λm s=>u m (.tail _ s);rw[show QA w (m::l)=QA (upd w m.D (IE (w.getD m.D.toNat []) m.K)) l from rfl,j,g];rw[v,dX k,Y6 d.len i.2.2.len a] at z;rw[v];omega
def vB (N:Nat) (l:BL):Prop:=(0≤l.U∧l.U≤64)∧0≤l.Ad∧l.Ad≤l.U
def tH.pos {N:Nat}{b:AE}{l:BL}(c:tH N b l):vB N l:=by
 by_cases h0:l.G=0
 ·have:=c.gate h0;exact⟨this.2.2.1,this.2.2.2.1⟩
 ·by_cases a:l.G=2
  ·have:=c.pump a;exact⟨⟨by omega,this.2.1.2⟩,this.2.2⟩
  ·have:=c.none_ h0 a;exact⟨by omega,by omega⟩
structure AfX (b:AE) (s:AF) (ts:List HV) (r:AF×List AI×List Int) (o3:List (List Int)) (l:List AI):Prop where
 own:Ie b.A.length b.I.length r.1.E
 que:QX b.A.length b.I.length r.1.H
 tot:E4 r.1.E+GX r.1.H+KT (l.filter ZP)=E4 o3+GX (JG s.C s.H)
 ol:r.1.L.length=b.I.length
 o0:∀x∈r.1.L,0≤x
 os:r.1.L.sum=s.L.sum+KT (l.filter ZP)
 oc:∀o,o<b.I.length→r.1.L.getD o 0=s.L.getD o 0+QD o (l.filter ZP)
 col:∀o,o<b.I.length→WZ o r.1.E+Tx o r.1.H+QD o (l.filter ZP)=WZ o o3+Tx o (JG s.C s.H)
 ql:r.1.H.length≤s.H.length+(64+b.A.length*(ts.length+b.F.length+2))
 l0:0≤KT (l.filter ZP)
def YW {N:Nat}(Y:18446744073709551616<N) {b:AE}(G:II b) {s:AF}(c:zJ b s) {u:List HV}{J:List (List Int)}{r:AF×List AI×List Int}{M:List Int}{v:List (List Int)}{l:List AI}(h:Wf N b s u J r M v l):AfX b s u r v l:=by
 have Z:=G.own;have g:∀m∈l,PX b.I.length m.K:=λm i=>by obtain⟨p,_,j⟩:=h.lv.mv m i;exact j.px
 have a:QX b.A.length b.I.length (JG s.C s.H):=λl Q=>c.x.que l (Abp.1 Q).1;have d:QX b.A.length b.I.length (l.filterMap (Kl b s.C)):=λx k=>by
  obtain⟨m,i,e⟩:=Ado.1 k;obtain⟨p,_,j⟩:=h.lv.mv m i;unfold Kl at e;split at e
  ·cases e
  ·cases e;have:=j.to;exact⟨j.px,by show 0≤m.B;omega,by show m.B<_;omega⟩
 have n:=(GZ a 0).2;rw[Abv,show GX ([]:List AO)=0 from rfl] at n;have q:=(GZ c.x.que 0).2;rw[Abv,show GX ([]:List AO)=0 from rfl] at q;have U:=c.x.own.sum0;have V:=h.lv.ox.sum0;have ht:=h.lv.tot;have h3:=h.os3;have h4:=c.outs;have h5:=c.x.inns;obtain⟨w,y,z,D⟩:=W9 (N:=N) (by omega) (by omega) g c.x.out c.out0 (by omega);rw[←h.lv.out_] at w y z D;have t:=h.ml2;rw[h.lv.ms_,Aas] at t;refine⟨h.lv.ox,?_,?_,w,y,z,D,λo W=>?_,?_,U0 λm i=>g m (Abp.1 i).1⟩
 ·rw[h.que];exact λx k=>(Aa0.1 k).elim (a x) (d x)
 ·have:=(Sx b s.C 0 l).2;rw[h.que,V4];omega
 ·have X:=(Sx b s.C o l).1;have F:=V7 W h.ox3 h.lv.val h.lv.mv;rw[←h.lv.own] at F;rw[h.que,dW];omega
 ·rw[h.que,Aas];have X:(JG s.C s.H).length≤s.H.length:=List.length_filter_le _ _;have F:=List.length_filterMap_le (Kl b s.C) l;omega
def Zg {N:Nat}(D:18446744073709551616<N) {b:AE}(Z:Fm N b=some true):Jv b∧Tf b∧Hf N b=some true∧Ev N b=some true:=by
 obtain⟨v,e,k⟩:=V1 D b;rw[Z] at e;cases e;have k:=k rfl;unfold Fm at Z;obtain⟨Y,_,Z⟩:=bd Z;obtain⟨H,I,Z⟩:=bd Z;obtain⟨J,i,Z⟩:=bd Z;obtain⟨K,j,Z⟩:=bd Z;obtain⟨M,m,Z⟩:=bd Z;obtain⟨Q,n,Z⟩:=bd Z;obtain⟨U,o,Z⟩:=bd Z;obtain⟨V,p,Z⟩:=bd Z;obtain⟨W,q,Z⟩:=bd Z;have a:∀{c:Bool} {x:Option Bool} {d:Bool},cond c (x.bind λy=>some y) (some false)=some d→d=true→c=true∧x=some true:=by
  intro c x d s hd;subst hd;cases c
  ·cases s
  ·cases x with
   |none=>cases s
   |some y=>exact⟨rfl,s⟩
 have t:=zZ Z;have u:=a q t;have w:=a p u.1;have z:=a o w.1;have A:=a n z.1;have B:=a m A.1;have g:=a j B.1;refine⟨k,λl X=>?_,(a i g.1).2,g.2⟩;have C:=ZW D k.head k.links g.2 l X;by_cases h0:l.G=0
 ·have:=C.gate h0;exact⟨this.2.2.1,this.2.2.2.1⟩
 ·by_cases F:l.G=2
  ·have:=C.pump F;exact⟨⟨by omega,this.2.1.2⟩,this.2.2⟩
  ·have:=C.none_ h0 F;exact⟨by omega,by omega⟩
def jK {b:AE}(c:Jv b) {p:Nat}(d:p<b.A.length) (a:Int):0≤Pr b p a∧Pr b p a≤240:=by
 unfold Pr;split
 ·rename_i g;rw[TI (show a.toNat<b.F.length by omega)];exact(c.links _ (Aap _)).delay
 ·split
  ·exact⟨by decide,by decide⟩
  ·have e:b.A.getD p default=b.A[p]:=by simp [Aa5,d]
   rw[e];exact(c.places _ (Aap _)).delay
def Wu {N:Nat}(B:18446744073709551616<N) {b:AE}(i:Jv b) (J:Tf b) {s:AF}(c:Va b s) (hH:s.C<16777216) {in_:Cs}{K:List HV}{M:List (List Int)}{r:AF×List AI×List Int}(Q:Em N b s in_=some r) {u:List Int}{F:List (List Int)}{l:List AI}(h:Wf N b s K M r u F l) (k1:E4 F+GX (JG s.C s.H)=E4 s.E+GX s.H+u.sum) (k4:s.N.sum+u.sum≤1152921504606846976):Va b r.1∧r.1.C=s.C+1:=by
 have j:=i.head.own1;have a:=YW B i.head c.rg h;obtain⟨G,v⟩:=gZ B i.head i.places J c Q;have z:=Jz h.n0;have hh:=c.rg.hour;have o:r.1.C=s.C+1:=by rw[h.hour,C7 (by omega) (by omega)]
 have U:r.1.N.sum=s.N.sum+u.sum:=by rw[h.inn,JE (by rw[c.rg.x.inn,Lw]),RJ j]
 have V:=a.tot;have h3:=h.os3;have W:=a.l0;have X:=a.os;have Y:=c.rg.outs;have Z:=Jz c.rg.x.inn0;refine⟨⟨⟨⟨a.own,a.que,by omega,G.1,v.1,by rw[h.inn];exact Ki c.rg.x.inn (Lw _ _),?_,by omega,a.ol⟩,by omega,λk l g w y=>⟨(v.2 k l g w y).pos,(v.2 k l g w y).tgt⟩,λq d=>?_,a.o0,by omega⟩,G.2,λk l g w y=>(v.2 k l g w y).opn⟩,o⟩
 ·rw[h.inn];refine PV c.rg.x.inn0 (aB j z ?_).nn;have aa:=c.rg.x.own.sum0;have A:=(GZ c.rg.x.que 0).2;rw[Abv,show GX ([]:List AO)=0 from rfl] at A;omega
 ·rw[o];rw[h.que] at d;rcases Aa0.1 d with d|d
  ·obtain⟨q1,I⟩:=Abp.1 d;have I:=Ab8 I;exact⟨by omega,(c.rg.at_ q q1).2⟩
  ·obtain⟨m,hm,e⟩:=Ado.1 d;obtain⟨p,hp,t⟩:=h.lv.mv m hm;unfold Kl at e;split at e
   ·cases e
   ·cases e;have hd:=jK i hp m.Ap;have hf:=t.fr;rw[show p=m.D.toNat by omega] at hd;refine⟨?_,t.pos⟩;show s.C+1≤A9 (A9 (s.C+1)+Pr b m.D.toNat m.Ap)
    rw[C7 (n:=s.C+1) (by omega) (by omega),C7 (by omega) (by omega)];omega
structure xJ (i:Cs):Prop where
 rain:i.Aa.length≤20
 faults:i.Ah.length≤20
 cmds:i.Aj.length≤20
 takes:i.Z.length≤20
 swaps:i.Aq.length≤20
structure Xc (b:AE):Prop where
 r:Jv b
 pos:Tf b
 p6:b.A.length≤6
 l6:b.F.length≤6
structure zN (N:Nat) (b:AE) (s:AF) (i:Cs) (y:AF×List AI×List Int):Prop where
 er:Em N b s i=some y
 rg0:Va b s
 rg:Va b y.1
 hour:y.1.C=s.C+1
 h0:s.C<16777216
 ml:y.2.1.length≤232
 ql:y.1.H.length≤s.H.length+232
 pl:y.2.2.length=b.A.length
 ex:∃o1 ns o3 l,(∀gs:List AQ,Ea N (⟨b,i,({ s with O:=gs}:AF),([]:List AI),(List.replicate ((b.A.length:Int)).toNat (0:Int)),([]:List AO)⟩:AL)=some o1)∧Ie b.A.length b.I.length o1∧o1.map List.sum=s.E.map List.sum∧Wf N b s i.Z o1 y ns o3 l∧E4 o3+GX (JG s.C s.H)=E4 s.E+GX s.H+ns.sum∧s.N.sum+ns.sum≤1152921504606846976
def cF {N:Nat}(g:18446744073709551616<N) {b:AE}(c:Xc b) {s:AF}(d:Va b s) (q:s.C<16777216) (U:s.H.length≤100000) {i:Cs}(t:xJ i):∃y,zN N b s i y:=by
 obtain⟨V,X,Y,h4,h5⟩:=t;have j:=c.p6;have u:=c.l6;have v:=c.r.head.own;obtain⟨w,k,m,z,B⟩:=aZ (N:=N) (by omega) (b:=b) (s:=s) (in_:=i) (W:=b.I.length) (by omega) (by omega) d.rg.x.own;obtain⟨r,D,G,l,n,h,o,_,_,p⟩:=hE g c.r.head c.r.links c.r.places d.rg.x (by omega) (in_:=i) (by omega) (by omega) (by omega) k m z;obtain⟨J,K⟩:=Wu g c.r c.pos d (by omega) n h o p;have a:=YW g c.r.head d.rg h;have hm:b.A.length*(i.Z.length+b.F.length+2)≤6*28:=Ac9 j (by omega);have M:=a.ql;have Q:=h.ml2;exact⟨r,n,d,J,K,q,by omega,by omega,by rw[h.pk,List.length_map,h.ox3.len],w,D,G,l,k,m,B,h,o,p⟩
inductive Sd (N:Nat) (b:AE):AF→List Cs→List AF→List AI→List (List Int)→AF→Prop
 |nil (s:AF):Sd N b s [] [] [] [] s
 |cons {s:AF} {i:Cs} {y:AF×List AI×List Int} {l:List Cs} {ss:List AF} {ms:List AI} {ps:List (List Int)} {t:AF}:zN N b s i y→Sd N b y.1 l ss ms ps t→Sd N b s (i::l) (y.1::ss) (y.2.1++ms) (y.2.2::ps) t
def dU {N:Nat}(d:18446744073709551616<N) {b:AE}(g:Xc b):∀(l:List Cs) {s:AF},Va b s→s.C+l.length≤16777216→s.H.length+232*l.length≤100000→(∀i∈l,xJ i)→∃ss ms ps t,Sd N b s l ss ms ps t∧Va b t∧t.C=s.C+l.length∧t.H.length≤s.H.length+232*l.length
 |[],s,a,_,_,_=>⟨[],[],[],s,.nil s,a,by simp,by simp⟩
 |i::l,s,a,m,n,k=>by
  rw[Abm] at m n;obtain⟨y,o⟩:=cF d g a (by omega) (by omega) (k i (.head _));have u:=o.hour;have v:=o.ql;obtain⟨ss,ms,ps,t,c,p,w,x⟩:=dU d g l o.rg (by omega) (by omega) λj q=>k j (.tail _ q);exact⟨_,_,_,t,.cons o c,p,by rw[Abm];omega,by rw[Abm];omega⟩
def Sd.app {N:Nat}{b:AE}{s t u:AF}{l i:List Cs}{ss a:List AF}{ms d:List AI}{ps g:List (List Int)}(m:Sd N b s l ss ms ps t) (k:Sd N b t i a d g u):Sd N b s (l++i) (ss++a) (ms++d) (ps++g) u:=by
 induction m with
 |nil s=>exact k
 |cons o c j=>rw[Ac6];exact .cons o (j k)
def Sd.len {N:Nat}{b:AE}{s t:AF}{l:List Cs}{ss:List AF}{ms:List AI}{ps:List (List Int)}(g:Sd N b s l ss ms ps t):ss.length=l.length∧ps.length=l.length∧ms.length≤232*l.length:=by
 induction g with
 |nil s=>exact⟨rfl,rfl,Aad _⟩
 |cons o c a=>
  have d:=o.ml;simp only[Abm,Aas];omega
def Sd.at {N:Nat}{b:AE}{s t:AF}{l:List Cs}{ss:List AF}{ms:List AI}{ps:List (List Int)}(p:Sd N b s l ss ms ps t):∀(k:Nat) u,ss[k]? =some u→Va b u∧u.C=s.C+k+1∧u.H.length≤s.H.length+232*l.length:=by
 induction p with
 |nil s=>intro k u p;cases p
 |cons o c d=>
  intro k u a;have i:=o.hour;have j:=o.ql;rw[Abm];cases k with
  |zero=>cases a;exact⟨o.rg,by omega,by omega⟩
  |succ k=>obtain⟨g,m,n⟩:=d k u a;exact⟨g,by omega,by omega⟩
def Sd.pk {N:Nat}{b:AE}{s t:AF}{l:List Cs}{ss:List AF}{ms:List AI}{ps:List (List Int)}(g:Sd N b s l ss ms ps t):∀p∈ps,p.length=b.A.length:=by
 induction g with
 |nil s=>intro p a;cases a
 |cons o c d=>
  intro p a;rcases Aae.1 a with rfl|a
  ·exact o.pl
  ·exact d p a
def YP {α}{l r:List α}{x:α}{k:Nat}(d:l.drop k=x::r):∃b:k<l.length,l[k]=x∧l.drop (k+1)=r:=by
 have b:k<l.length:=by
  rcases Aar k l.length with a|a
  ·exact a
  ·rw[Acj a] at d;cases d
 rw[Acz b] at d;injection d with a c
 exact⟨b,a,c⟩
def WV {α}{l:List α}{k:Nat}(a:l.drop k=[]):l.length≤k:=by
 simpa using a
def XJ {N:Nat}{b:AE}{ins:List Cs}{kj:List AF→List AI→List (List Int)→Option (List AF×List AI×List (List Int))}{s t:AF}{l:List Cs}{ss:List AF}{ms:List AI}{ps:List (List Int)}(D:Sd N b s l ss ms ps t):∀(k n:Nat) (a:List AF) (d:List AI) (g:List (List Int)),ins.drop k=l→l.length<n→k+l.length≤100000→a.length+l.length≤100000→d.length+232*l.length≤100000→g.length+l.length≤100000→Gr N b ins kj n a d g (k:Int) s.C s.E s.M s.H s.O s.N s.L=kj (a++ss) (d++ms) (g++ps):=by
 induction D with
 |nil s=>
  intro k n a d g hd j _ _ _ _;obtain⟨m,rfl⟩:∃m,n=m+1:=⟨n-1,by simp at j;omega⟩
  simp only[Gr];rw[E5 (WV hd),zX,Aa3,Aa3,Aa3]
 | @cons s i y l ss ms ps t o c q=>
  intro k n a d g hd j h0 u v w;rw[Abm] at j h0 u v w;obtain⟨m,rfl⟩:∃m,n=m+1:=⟨n-1,by omega⟩
  obtain⟨p,x,z⟩:=YP hd;have A:Em N b (⟨s.C,s.E,s.M,s.H,s.O,s.N,s.L⟩:AF) i=some y:=o.er;have B:=o.ml;simp only[Gr];rw[Ef p,zV,BM p,zU,x,A,zU,JY (by omega),JY (by omega),JY (by omega),BK (by omega)];rw[q (k+1) m (a++[y.1]) (d++y.2.1) (g++[y.2.2]) z (by omega) (by omega) (by simp;omega) (by simp;omega) (by simp;omega)];simp
def dT {N:Nat}{b:AE}{ins:List Cs}{kj:Int→List (List Int)→List Int→List AO→List AQ→List Int→List Int→Option AF}{s t:AF}{l:List Cs}{ss:List AF}{ms:List AI}{ps:List (List Int)}(u:Sd N b s l ss ms ps t):∀(k n:Nat),ins.drop k=l→l.length<n→k+l.length≤100000→Hl N b ins kj n (k:Int) s.C s.E s.M s.H s.O s.N s.L=kj t.C t.E t.M t.H t.O t.N t.L:=by
 induction u with
 |nil s=>
  intro k n hd a _;obtain⟨m,rfl⟩:∃m,n=m+1:=⟨n-1,by simp at a;omega⟩
  simp only[Hl];rw[E5 (WV hd),zX]
 | @cons s i y l ss ms ps t o c g=>
  intro k n hd a h0;rw[Abm] at a h0;obtain⟨m,rfl⟩:∃m,n=m+1:=⟨n-1,by omega⟩
  obtain⟨d,j,p⟩:=YP hd;have q:Em N b (⟨s.C,s.E,s.M,s.H,s.O,s.N,s.L⟩:AF) i=some y:=o.er;simp only[Hl];rw[Ef d,zV,BM d,zU,j,q,zU,BK (by omega)];exact g (k+1) m p (by omega) (by omega)
def Ze {N:Nat}(a:1000000<N) {b:AE}{s t:AF}{l:List Cs}{ss:List AF}{ms:List AI}{ps:List (List Int)}(d:Sd N b s l ss ms ps t) (c:l.length≤12):Jo N b s l=some (ss,ms,ps):=by
 unfold Jo;have e:=XJ (ins:=l) (kj:=JI N) d 0 N [] [] [] rfl (by omega) (by omega) (by simp;omega) (by simp;omega) (by simp;omega);exact e
def iY {N:Nat}(a:1000000<N) {b:AE}{s t:AF}{l:List Cs}{ss:List AF}{ms:List AI}{ps:List (List Int)}(d:Sd N b s l ss ms ps t) (c:l.length≤12):LM N b s l=some t:=by
 unfold LM;have e:=dT (ins:=l) (kj:=KB N) d 0 N rfl (by omega) (by omega);exact e
def cS {N:Nat}(l:18446744073709551616<N) (b:AE) (s:AF) (ins:List Cs):∃v,FO N b s ins=some v∧(v=true→Xc b∧Va b s∧s.H.length≤20∧ins.length≤12∧s.C≤16777196∧∀i∈ins,xJ i):=by
 unfold FO;cases m:((((decide (6<(b.A.length:Int))||decide (6<(b.F.length:Int)))||decide (20<(s.H.length:Int)))||decide (12<(ins.length:Int)))||decide (16777196<s.C)) with
 |true=>exact⟨false,rfl,λQ=>by cases Q⟩
 |false=>
  simp only[Aa2,Aat] at m;obtain⟨⟨⟨⟨x,y⟩,z⟩,B⟩,D⟩:=m;rw[zX];rcases M9 ins.length (λn i (_:Unit)=>Ch N ins (CT N b s) n i) (λ_=>CT N b s) (some false) (λk _=>∀i∈ins.take k,xJ i) (λn k t c=>by
   simp only[Ch];rw[E5 c];rfl) (λn k t d c=>by
   simp only[Ch];rw[Ef c,zV,BM c,zU,BK (by omega)];cases o:((((decide (20<((ins[k]).Aa.length:Int))||decide (20<((ins[k]).Ah.length:Int)))||decide (20<((ins[k]).Aj.length:Int)))||decide (20<((ins[k]).Z.length:Int)))||decide (20<((ins[k]).Aq.length:Int)))
   ·simp only[Aa2,Aat] at o;obtain⟨⟨⟨⟨G,I⟩,J⟩,K⟩,M⟩:=o;refine .inr ⟨(),λj a=>?_,rfl⟩;rw[Ab6 c] at a;rcases Aa0.1 a with a|a
    ·exact d j a
    ·cases Abi.1 a;exact⟨by omega,by omega,by omega,by omega,by omega⟩
   ·exact .inl rfl) N 0 () (λi d=>by cases d) (by omega) (Aad _) with e|⟨_,i1,e⟩
  ·exact⟨false,e,λQ=>by cases Q⟩
  ·rw[show Ch N ins (CT N b s) N 0=CT N b s from e];rw[Aa9] at i1;unfold CT;obtain⟨v,p,kv⟩:=V1 l b;rw[p,zU];cases v with
   |false=>exact⟨false,rfl,λQ=>by cases Q⟩
   |true=>
    obtain⟨g,q,_,_⟩:=Zg l p;obtain⟨v,u,w⟩:=ZA (N:=N) (by omega) g.head g.places s (by omega);rw[zV,u];exact⟨v,rfl,λQ=>⟨⟨g,q,by omega,by omega⟩,w Q,by omega,by omega,by omega,i1⟩⟩
def Xn:ER BN=some true:=by decide +kernel
end Go.Proofs.YtedgiljmffngoaaGreat
