import Derived.Test.YtabonambpbofgaaGreatNPureT1
import Derived.Test.YtabonambpbofgaaGreatNPureC2
namespace Go.Proofs.YtabonambpbofgaaGreat
set_option linter.all false
open Go.RowKit
def Rq.at_:∀{l:List AX}{o:List (List Int)},Rq l o→∀(j:Nat) (b:j<l.length),∃x,(SU o (l.take j))[(l[j]).M.toNat]? =some x∧W7 (l[j]).V x
 |m::l,o,b,0,_=>b.1
 |m::l,o,b,j+1,a=>Rq.at_ (l:=l) b.2 j (by simpa using a)
def QU (o:Nat) (a:List AX):Int:=(a.map λm=>m.V.getD o 0).sum
def ZQ {W o:Nat}{x y:List Int}(c:x.length=W) (d:y.length=W) (g:o<W):(Jx x y).getD o 0=x.getD o 0-y.getD o 0:=by
 have a:o<x.length:=by omega
 have b:o<y.length:=by omega
 unfold Jx;simp [Adp,Aeq,a,b]
def ZS {W o:Nat}{x y:List Int}(c:x.length=W) (d:y.length=W) (g:o<W):(Hx x y).getD o 0=x.getD o 0+y.getD o 0:=by
 have a:o<x.length:=by omega
 have b:o<y.length:=by omega
 unfold Hx;simp [Adp,Aeq,a,b]
def Wp (o:Nat) (w:List (List Int)):Int:=(w.map λx=>x.getD o 0).sum
def T9 (o:Nat) (q:List AT):Int:=(q.map λl=>l.V.getD o 0).sum
def fO (o:Nat) (a b:List AT):T9 o (a++b)=T9 o a+T9 o b:=by unfold T9;rw[Adw,Ad9]
def fP {o:Nat}{w:List (List Int)}{k:Nat}{x y:List Int}(a:w[k]? =some x):Wp o (upd w (k:Int) y)=Wp o w-x.getD o 0+y.getD o 0:=by
 have b:=(Acq.1 a).1;have c:=(Acq.1 a).2;unfold Wp upd;rw[Adm,List.map_set,OC (by simpa using b),List.getElem_map,c]
def PX.bd {W:Nat}{p:List Int}(b:PX W p):∀x∈p, -2305843009213693952≤x∧x≤2305843009213693952:=λx a=>by
 have:=b.mem a;omega
def Zj (m:AX):Bool:=decide (m.E<0)
def TE (b:AF) (H:Int) (o:Nat):∀(l:List AX),T9 o (l.filterMap (Mo b H))+QU o (l.filter Zj)=QU o l∧He (l.filterMap (Mo b H))+Lz (l.filter Zj)=Lz l
 |[]=>⟨rfl,rfl⟩
 |m::l=>by
  obtain⟨i,j⟩:=TE b H o l;have g:∀l,QU o (m::l)=m.V.getD o 0+QU o l:=λl=>by unfold QU;rw[Acz,Adu]
  have a:∀l,Lz (m::l)=m.V.sum+Lz l:=λl=>by unfold Lz;rw[Acz,Adu]
  by_cases k:m.E<0
  ·rw[List.filterMap_cons_none (by unfold Mo;rw[Acf k]),List.filter_cons_of_pos (by unfold Zj;simpa using k),g,g,a,a];omega
  ·rw[List.filterMap_cons_some (b:=(⟨BT (BT (H+1)+QV b m.M.toNat m.Bf),m.E,m.V⟩:AT)) (by unfold Mo;rw[Ace k]),List.filter_cons_of_neg (by unfold Zj;simpa using k),g,a];have c:∀(x:AT) l,T9 o (x::l)=x.V.getD o 0+T9 o l:=λx l=>by unfold T9;rw[Acz,Adu]
   have d:∀(x:AT) l,He (x::l)=x.V.sum+He l:=λx l=>by unfold He;rw[Acz,Adu]
   rw[c,d];simp only;omega
def YR {W:Nat}{l:List AX}(b:∀m∈l,PX W m.V):0≤Lz l:=by
 unfold Lz;exact Se (f:=λm:AX=>m.V.sum) λm a=>(b m a).sum0
def XS {N W:Nat}(d:8000000000000<N) (j:W≤1000):∀{l:List AX}{out:List Int},(∀m∈l,PX W m.V)→out.length=W→(∀x∈out,0≤x)→out.sum+Lz l≤2305843009213693952→(T3 N out l).length=W∧(∀x∈T3 N out l,0≤x)∧(T3 N out l).sum=out.sum+Lz (l.filter Zj)∧∀o,o<W→(T3 N out l).getD o 0=out.getD o 0+QU o (l.filter Zj)
 |[],out,_,b,h0,_=>⟨b,h0,by show out.sum=out.sum+0;omega,λo _=>by show out.getD o 0=out.getD o 0+0;omega⟩
 |m::l,out,c,b,h0,q=>by
  have a:=c m (.head _);have s:=YR (l:=l) λm a=>c m (.tail _ a);have k:∀l,Lz (m::l)=m.V.sum+Lz l:=λl=>by unfold Lz;rw[Acz,Adu]
  have g:∀o l,QU o (m::l)=m.V.getD o 0+QU o l:=λo l=>by unfold QU;rw[Acz,Adu]
  rw[k] at q;have t:=a.sum0;rw[show T3 N out (m::l)=T3 N (if m.E<0 then (Hr N out m.V).getD [] else out) l from rfl];by_cases z:m.E<0
  ·rw[Acf z,YO d (by omega) (by rw[a.len,b]) (λx n=>by have:=Jd h0 x n;have:=h0 x n;omega) a.bd,Ad0,List.filter_cons_of_pos (by unfold Zj;simpa using z)];have i:(Hx out m.V).sum=out.sum+m.V.sum:=ME (b.trans a.len.symm);obtain⟨u,v,w,y⟩:=XS d j (l:=l) (out:=Hx out m.V) (λm a=>c m (.tail _ a)) (Qk b a.len) (Sa h0 a.nn) (by omega);exact⟨u,v,by rw[w,i,k];omega,λo p=>by rw[y o p,ZS b a.len p,g];omega⟩
  ·rw[Ace z,List.filter_cons_of_neg (by unfold Zj;simpa using z)];exact XS d j (l:=l) (λm a=>c m (.tail _ a)) b h0 (by omega)
def WS {b:AF}{H:Int}{W o:Nat}(a:o<W):∀{l:List AX}{w:List (List Int)},Jw b.A.length W w→Rq l w→(∀m∈l,∃p,p<b.A.length∧Aaj b H W p m)→Wp o (SU w l)+QU o l=Wp o w
 |[],w,_,_,_=>by show Wp o w+0=_;omega
 |m::l,w,t,y,u=>by
  obtain⟨⟨x,k,n⟩,c⟩:=y;obtain⟨p,B,q⟩:=u m (.head _);have d:=t.all x (Adn k);have i:=n.sub d;have j:w.getD m.M.toNat []=x:=by rw[Adp,k];rfl
  have g:∀o l,QU o (m::l)=m.V.getD o 0+QU o l:=λo l=>by unfold QU;rw[Acz,Adu]
  have v:upd w m.M (Jx x m.V)=upd w ((m.M.toNat:Nat):Int) (Jx x m.V):=by rw[q.fr,Adm]
  rw[j] at c;have z:=WS a (l:=l) (w:=upd w m.M (Jx x m.V)) (t.upd _ i.1) c λm s=>u m (.tail _ s);rw[show SU w (m::l)=SU (upd w m.M (Jx (w.getD m.M.toNat []) m.V)) l from rfl,j,g];rw[v,fP k,ZQ d.len i.2.2.len a] at z;rw[v];omega
def xI (N:Nat) (l:BC):Prop:=(0≤l.W∧l.W≤64)∧0≤l.Ag∧l.Ag≤l.W
def vT.pos {N:Nat}{b:AF}{l:BC}(c:vT N b l):xI N l:=by
 by_cases h0:l.G=0
 ·have:=c.gate h0;exact⟨this.2.2.1,this.2.2.2.1⟩
 ·by_cases a:l.G=2
  ·have:=c.pump a;exact⟨⟨by omega,this.2.1.2⟩,this.2.2⟩
  ·have:=c.none_ h0 a;exact⟨by omega,by omega⟩
structure AfX (b:AF) (s:AI) (ts:List FL) (r:AI×List AX×List Int) (o3:List (List Int)) (l:List AX):Prop where
 own:Jw b.A.length b.J.length r.1.H
 que:QX b.A.length b.J.length r.1.I
 tot:GG r.1.H+He r.1.I+Lz (l.filter Zj)=GG o3+He (MQ s.B s.I)
 ol:r.1.O.length=b.J.length
 o0:∀x∈r.1.O,0≤x
 os:r.1.O.sum=s.O.sum+Lz (l.filter Zj)
 oc:∀o,o<b.J.length→r.1.O.getD o 0=s.O.getD o 0+QU o (l.filter Zj)
 col:∀o,o<b.J.length→Wp o r.1.H+T9 o r.1.I+QU o (l.filter Zj)=Wp o o3+T9 o (MQ s.B s.I)
 ql:r.1.I.length≤s.I.length+(64+b.A.length*(ts.length+b.C.length+2))
 l0:0≤Lz (l.filter Zj)
def Yw {N:Nat}(X:18446744073709551616<N) {b:AF}(F:II b) {s:AI}(c:Ab4 b s) {u:List FL}{G:List (List Int)}{r:AI×List AX×List Int}{H:List Int}{v:List (List Int)}{l:List AX}(h:Yy N b s u G r H v l):AfX b s u r v l:=by
 have Y:=F.own;have g:∀m∈l,PX b.J.length m.V:=λm i=>by obtain⟨p,_,j⟩:=h.lv.mv m i;exact j.px
 have a:QX b.A.length b.J.length (MQ s.B s.I):=λl K=>c.x.que l (Ads.1 K).1;have d:QX b.A.length b.J.length (l.filterMap (Mo b s.B)):=λx k=>by
  obtain⟨m,i,e⟩:=Afl.1 k;obtain⟨p,_,j⟩:=h.lv.mv m i;unfold Mo at e;split at e
  ·cases e
  ·cases e;have:=j.to;exact⟨j.px,by show 0≤m.E;omega,by show m.E<_;omega⟩
 have n:=(IR a 0).2;rw[Ad8,show He ([]:List AT)=0 from rfl] at n;have q:=(IR c.x.que 0).2;rw[Ad8,show He ([]:List AT)=0 from rfl] at q;have M:=c.x.own.sum0;have Q:=h.lv.ox.sum0;have Z:=h.lv.tot;have h3:=h.os3;have h4:=c.outs;have h5:=c.x.inns;obtain⟨w,y,z,C⟩:=XS (N:=N) (by omega) (by omega) g c.x.out c.out0 (by omega);rw[←h.lv.out_] at w y z C;have t:=h.ml2;rw[h.lv.ms_,Ac6] at t;refine⟨h.lv.ox,?_,?_,w,y,z,C,λo U=>?_,?_,YR λm i=>g m (Ads.1 i).1⟩
 ·rw[h.que];exact λx k=>(Ac7.1 k).elim (a x) (d x)
 ·have:=(TE b s.B 0 l).2;rw[h.que,WQ];omega
 ·have W:=(TE b s.B o l).1;have D:=WS U h.ox3 h.lv.val h.lv.mv;rw[←h.lv.own] at D;rw[h.que,fO];omega
 ·rw[h.que,Ac6];have W:(MQ s.B s.I).length≤s.I.length:=Afs _ _;have D:=List.length_filterMap_le (Mo b s.B) l;omega
def Ro {N:Nat}(D:18446744073709551616<N) {b:AF}(Z:Gv N b=some true):KG b∧To b∧Hb N b=some true∧FH N b=some true:=by
 obtain⟨v,e,k⟩:=WL D b;rw[Z] at e;cases e;have k:=k rfl;unfold Gv at Z;obtain⟨Y,_,Z⟩:=bd Z;obtain⟨H,I,Z⟩:=bd Z;obtain⟨J,i,Z⟩:=bd Z;obtain⟨K,j,Z⟩:=bd Z;obtain⟨M,m,Z⟩:=bd Z;obtain⟨Q,n,Z⟩:=bd Z;obtain⟨U,o,Z⟩:=bd Z;obtain⟨V,p,Z⟩:=bd Z;obtain⟨W,q,Z⟩:=bd Z;have a:∀{c:Bool} {x:Option Bool} {d:Bool},cond c (x.bind λy=>some y) (some false)=some d→d=true→c=true∧x=some true:=by
  intro c x d s hd;subst hd;cases c
  ·cases s
  ·cases x with
   |none=>cases s
   |some y=>exact⟨rfl,s⟩
 have t:=Acg Z;have u:=a q t;have w:=a p u.1;have z:=a o w.1;have A:=a n z.1;have B:=a m A.1;have g:=a j B.1;refine⟨k,λl X=>?_,(a i g.1).2,g.2⟩;have C:=Zo D k.head k.links g.2 l X;by_cases h0:l.G=0
 ·have:=C.gate h0;exact⟨this.2.2.1,this.2.2.2.1⟩
 ·by_cases F:l.G=2
  ·have:=C.pump F;exact⟨⟨by omega,this.2.1.2⟩,this.2.2⟩
  ·have:=C.none_ h0 F;exact⟨by omega,by omega⟩
def kU {b:AF}(c:KG b) {p:Nat}(d:p<b.A.length) (a:Int):0≤QV b p a∧QV b p a≤240:=by
 unfold QV;split
 ·rename_i g;rw[TS (show a.toNat<b.C.length by omega)];exact(c.links _ (Acw _)).delay
 ·split
  ·exact⟨by decide,by decide⟩
  ·have e:b.A.getD p default=b.A[p]:=by simp [Adp,d]
   rw[e];exact(c.places _ (Acw _)).delay
def XI {N:Nat}(C:18446744073709551616<N) {b:AF}(i:KG b) (K:To b) {s:AI}(c:Zz b s) (hH:s.B<16777216) {in_:AN}{Q:List FL}{U:List (List Int)}{r:AI×List AX×List Int}(V:Hg N b s in_=some r) {u:List Int}{F:List (List Int)}{l:List AX}(h:Yy N b s Q U r u F l) (k1:GG F+He (MQ s.B s.I)=GG s.H+He s.I+u.sum) (k4:s.D.sum+u.sum≤1152921504606846976):Zz b r.1∧r.1.B=s.B+1:=by
 have j:=i.head.own1;have a:=Yw C i.head c.rg h;obtain⟨G,v⟩:=jE C i.head i.places K c V;have z:=Ki h.n0;have hh:=c.rg.hour;have o:r.1.B=s.B+1:=by rw[h.hour,EM (by omega) (by omega)]
 have W:r.1.D.sum=s.D.sum+u.sum:=by rw[h.inn,ME (by rw[c.rg.x.inn,Ss]),Us j]
 have X:=a.tot;have h3:=h.os3;have Y:=a.l0;have Z:=a.os;have aa:=c.rg.outs;have ab:=Ki c.rg.x.inn0;refine⟨⟨⟨⟨a.own,a.que,by omega,G.1,v.1,by rw[h.inn];exact Qk c.rg.x.inn (Ss _ _),?_,by omega,a.ol⟩,by omega,λk l g w y=>⟨(v.2 k l g w y).pos,(v.2 k l g w y).tgt⟩,λq d=>?_,a.o0,by omega⟩,G.2,λk l g w y=>(v.2 k l g w y).opn⟩,o⟩
 ·rw[h.inn];refine Sa c.rg.x.inn0 (mW j z ?_).nn;have ac:=c.rg.x.own.sum0;have A:=(IR c.rg.x.que 0).2;rw[Ad8,show He ([]:List AT)=0 from rfl] at A;omega
 ·rw[o];rw[h.que] at d;rcases Ac7.1 d with d|d
  ·obtain⟨q1,J⟩:=Ads.1 d;have J:=Ad2 J;exact⟨by omega,(c.rg.at_ q q1).2⟩
  ·obtain⟨m,hm,e⟩:=Afl.1 d;obtain⟨p,hp,t⟩:=h.lv.mv m hm;unfold Mo at e;split at e
   ·cases e
   ·cases e;have hd:=kU i hp m.Bf;have hf:=t.fr;rw[show p=m.M.toNat by omega] at hd;refine⟨?_,t.pos⟩;show s.B+1≤BT (BT (s.B+1)+QV b m.M.toNat m.Bf)
    rw[EM (n:=s.B+1) (by omega) (by omega),EM (by omega) (by omega)];omega
structure Z4 (i:AN):Prop where
 rain:i.S.length≤20
 faults:i.X.length≤20
 cmds:i.Y.length≤20
 takes:i.U.length≤20
 swaps:i.Ad.length≤20
structure mT (b:AF):Prop where
 r:KG b
 pos:To b
 p6:b.A.length≤6
 l6:b.C.length≤6
structure zR (N:Nat) (b:AF) (s:AI) (i:AN) (y:AI×List AX×List Int):Prop where
 er:Hg N b s i=some y
 rg0:Zz b s
 rg:Zz b y.1
 hour:y.1.B=s.B+1
 h0:s.B<16777216
 ml:y.2.1.length≤232
 ql:y.1.I.length≤s.I.length+232
 pl:y.2.2.length=b.A.length
 ex:∃o1 ns o3 l,(∀gs:List A3,Fw N (⟨b,i,({ s with P:=gs}:AI),([]:List AX),(List.replicate ((b.A.length:Int)).toNat (0:Int)),([]:List AT)⟩:AM)=some o1)∧Jw b.A.length b.J.length o1∧o1.map List.sum=s.H.map List.sum∧Yy N b s i.U o1 y ns o3 l∧GG o3+He (MQ s.B s.I)=GG s.H+He s.I+ns.sum∧s.D.sum+ns.sum≤1152921504606846976
def dC {N:Nat}(g:18446744073709551616<N) {b:AF}(c:mT b) {s:AI}(d:Zz b s) (q:s.B<16777216) (V:s.I.length≤4000000000000) {i:AN}(t:Z4 i):∃y,zR N b s i y:=by
 obtain⟨X,Y,Z,h4,h5⟩:=t;have j:=c.p6;have u:=c.l6;have v:=c.r.head.own;obtain⟨w,k,m,z,D⟩:=bV (N:=N) (by omega) (b:=b) (s:=s) (in_:=i) (W:=b.J.length) (by omega) (by omega) d.rg.x.own;obtain⟨r,F,G,l,n,h,o,_,_,p⟩:=jF g c.r.head c.r.links c.r.places d.rg.x (by omega) (in_:=i) (by omega) (by omega) (by omega) k m z;obtain⟨H,K⟩:=XI g c.r c.pos d (by omega) n h o p;have a:=Yw g c.r.head d.rg h;have hm:b.A.length*(i.U.length+b.C.length+2)≤6*28:=Afd j (by omega);have M:=a.ql;have Q:=h.ml2;exact⟨r,n,d,H,K,q,by omega,by omega,by rw[h.pk,Ae7,h.ox3.len],w,F,G,l,k,m,D,h,o,p⟩
inductive W9 (N:Nat) (b:AF):AI→List AN→List AI→List AX→List (List Int)→AI→Prop
 |nil (s:AI):W9 N b s [] [] [] [] s
 |cons {s:AI} {i:AN} {y:AI×List AX×List Int} {l:List AN} {ss:List AI} {ms:List AX} {ps:List (List Int)} {t:AI}:zR N b s i y→W9 N b y.1 l ss ms ps t→W9 N b s (i::l) (y.1::ss) (y.2.1++ms) (y.2.2::ps) t
def W9.app {N:Nat}{b:AF}{s t u:AI}{l i:List AN}{j a:List AI}{m d:List AX}{n g:List (List Int)}(q:W9 N b s l j m n t) (k:W9 N b t i a d g u):W9 N b s (l++i) (j++a) (m++d) (n++g) u:=by
 induction q with
 |nil s=>exact k
 |cons o c p=>rw[Ado];exact .cons o (p k)
def W9.len {N:Nat}{b:AF}{s t:AI}{l:List AN}{a:List AI}{d:List AX}{g:List (List Int)}(k:W9 N b s l a d g t):a.length=l.length∧g.length=l.length∧d.length≤232*l.length:=by
 induction k with
 |nil s=>exact⟨rfl,rfl,Aci _⟩
 |cons o c i=>
  have j:=o.ml;simp only[Aei,Ac6];omega
def Abv {N:Nat}{b:AF}{s t:AI}{l:List AN}{a:List AI}{g:List AX}{i:List (List Int)}(w:W9 N b s l a g i t):∀(k:Nat) u,a[k]? =some u→Zz b u∧u.B=s.B+k+1∧u.I.length≤s.I.length+232*l.length:=by
 induction w with
 |nil s=>intro k u w;cases w
 |cons o c j=>
  intro k u d;have n:=o.hour;have p:=o.ql;rw[Aei];cases k with
  |zero=>cases d;exact⟨o.rg,by omega,by omega⟩
  |succ k=>obtain⟨m,q,v⟩:=j k u d;exact⟨m,by omega,by omega⟩
def W9.pk {N:Nat}{b:AF}{s t:AI}{l:List AN}{g:List AI}{i:List AX}{d:List (List Int)}(k:W9 N b s l g i d t):∀p∈d,p.length=b.A.length:=by
 induction k with
 |nil s=>intro p a;cases a
 |cons o c j=>
  intro p a;rcases Acl.1 a with rfl|a
  ·exact o.pl
  ·exact j p a
def kT {α}{l r:List α}{x:α}{k:Nat}(d:l.drop k=x::r):∃b:k<l.length,l[k]=x∧l.drop (k+1)=r:=by
 have b:k<l.length:=by
  rcases Acy k l.length with a|a
  ·exact a
  ·rw[Aee a] at d;cases d
 rw[Aen b] at d;injection d with a c
 exact⟨b,a,c⟩
def fH {α}{l:List α}{k:Nat}(a:l.drop k=[]):l.length≤k:=by
 simpa using a
def fM {N:Nat}{b:AF}{ins:List AN}{kj:Int→List (List Int)→List Int→List AT→List A3→List Int→List Int→Option AI}{s t:AI}{l:List AN}{d:List AI}{g:List AX}{j:List (List Int)}(x:W9 N b s l d g j t):∀(k n:Nat),ins.drop k=l→l.length<n→k+l.length≤100000→IY N b ins kj n (k:Int) s.B s.H s.N s.I s.P s.D s.O=kj t.B t.H t.N t.I t.P t.D t.O:=by
 induction x with
 |nil s=>
  intro k n hd a _;obtain⟨m,rfl⟩:∃m,n=m+1:=⟨n-1,by simp at a;omega⟩
  simp only[IY];rw[Fj (fH hd),Acd]
 | @cons s i y l d g j t o c q=>
  intro k n hd a h0;rw[Aei] at a h0;obtain⟨m,rfl⟩:∃m,n=m+1:=⟨n-1,by omega⟩
  obtain⟨p,u,v⟩:=kT hd;have w:Hg N b (⟨s.B,s.H,s.N,s.I,s.P,s.D,s.O⟩:AI) i=some y:=o.er;simp only[IY];rw[FA p,Acc,BG p,Acb,u,w,Acb,BA (by omega)];exact q (k+1) m v (by omega) (by omega)
def PH {N:Nat}{l:List Int}(a:l.length≤4000000000000):BO N l=some l:=by
 unfold BO;rw[F7 (by simp;omega)];rfl
def lC {N:Nat}{l:List (List Int)}(a:l.length≤4000000000000):GY N l=some l:=by
 unfold GY;rw[F7 (by simp;omega)];rfl
def lA {N:Nat}{l:List AT}(a:l.length≤4000000000000):Cz N l=some l:=by
 unfold Cz;rw[F7 (by simp;omega)];rfl
def lD {N:Nat}{l:List A3}(a:l.length≤4000000000000):BW N l=some l:=by
 unfold BW;rw[F7 (by simp;omega)];rfl
def sH {N:Nat}{l:List ByteArray}(a:l.length≤1000):FQ N l=some l:=by
 unfold FQ;rw[F7 (by simp;omega)];rfl
def fR {N:Nat}{l:List Cj}(a:l.length≤1000):Cm N l=some l:=by
 unfold Cm;rw[F7 (by simp;omega)];rfl
def RI {N:Nat}{l:List Bz}(a:l.length≤1000):BS N l=some l:=by
 unfold BS;rw[F7 (by simp;omega)];rfl
def lE {N:Nat}{l:List Lm}(a:l.length≤1000):C1 N l=some l:=by
 unfold C1;rw[F7 (by simp;omega)];rfl
def lB {N:Nat}{l:List BC}(a:l.length≤1000):C0 N l=some l:=by
 unfold C0;rw[F7 (by simp;omega)];rfl
def kX {N:Nat}{l:List Ku}(a:l.length≤1000):Cx N l=some l:=by
 unfold Cx;rw[F7 (by simp;omega)];rfl
def fS {N:Nat}{l:List JJ}(a:l.length≤1000):Cn N l=some l:=by
 unfold Cn;rw[F7 (by simp;omega)];rfl
def kZ {N:Nat}{l:List Kv}(a:l.length≤1000):Cy N l=some l:=by
 unfold Cy;rw[F7 (by simp;omega)];rfl
def kY {N:Nat}{l:List Gy}(a:l.length≤1000):CS N l=some l:=by
 unfold CS;rw[F7 (by simp;omega)];rfl
def MF {α}{l:List α}{k:Nat}(a:k<l.length):upd l (k:Int) l[k]=l:=by
 unfold upd;simp
structure iI (b:AF):Prop where
 rm:b.Aj.length≤3
 pl:∀p∈b.A,p.An.length≤16∧p.S.length≤64
 li:∀l∈b.C,l.As.length≤32∧l.Ae.Aw.length≤32∧l.Ae.Ax.length≤32
def WO {N:Nat}(b:AF) (j:b.K≤64) (p:Cj) (a:Int) (kj:Int→Option Bool):∀(n:Nat) (s:Int) (k:Nat),k≤p.S.length→k<4611686018427387904→(k:Int)≤s+1→s<64→Ch N b p a kj n s (k:Int)=some true→p.S.length≤64
 |0,_,_,_,_,_,_,q=>by cases q
 |n+1,s,k,l,i,m,o,q=>by
  simp only[Ch] at q;rcases Acy k p.S.length with g|g
  ·rw[FA g,Acc,BG g,Acb] at q;obtain⟨c,d,q⟩:=bd q;cases c with
   |true=>cases q
   |false=>
    cases hd:(decide ((p.S[k]).Bg≤s)||decide (b.K≤(p.S[k]).Bg)) with
    |true=>rw[hd] at d;cases d
    |false=>
     simp only[Ac9,Ac2] at hd;rw[Acd,BA i] at q;exact WO b j p a kj n _ (k+1) g (by omega) (by omega) (by omega) q
  ·omega
def R6 {N:Nat}{b:AF}(j:II b):∀(n:Nat) (s:Int) (k:Nat),0≤s→s+((b.A.length:Int)-k)*18014398509481984≤2305843009213693952→k≤b.A.length→B6 N b (CT N) n s (k:Int)=some true→∀p∈b.A.drop k,p.An.length≤16∧p.S.length≤64
 |0,s,k,h0,B,C,U=>by cases U
 |n+1,s,k,h0,B,C,U=>by
  have M:=j.own;have D:=j.pl;have F:=j.cells;simp only[B6] at U;rcases Acy k b.A.length with d|d
  ·rw[FA d,Acc,BG d,Acb] at U;obtain⟨_,_,U⟩:=bd U;obtain⟨_,_,U⟩:=bd U;obtain⟨_,_,U⟩:=bd U;obtain⟨_,_,U⟩:=bd U;obtain⟨_,_,U⟩:=bd U;obtain⟨m,_,U⟩:=bd U;obtain⟨o,g,U⟩:=bd U;obtain⟨q,t,u⟩:=bd U;cases q with
   |true=>cases u
   |false=>
    rw[Acd] at u;cases o with
    |true=>cases t
    |false=>
     cases a:(m||decide (((b.A[k]).An.length:Int)≠(b.J.length:Int))) with
     |true=>rw[a] at g;cases g
     |false=>
      simp only[Ac9,Ac2,ne_eq,Decidable.not_not] at a;have Q:(b.A[k]).An.length=b.J.length:=by omega
      obtain⟨v,w⟩:=UH (N:=N) b.A[k] _ (by omega) N s 0 h0 (by omega) (Aci _) u;rw[List.drop_zero] at v w;have G:=WO b (by omega) b.A[k] _ _ N (-1) 0 (Aci _) (by omega) (by omega) (by omega) v;have y:=WP b b.A[k] _ _ N _ _ v;have H:=Ki (l:=(b.A[k]).An) λx z=>(w x z).1;have I:=K3 (l:=(b.A[k]).An) (c:=1125899906842624) λx z=>(w x z).2;unfold C5 at y;rw[BA (by omega)] at y;have K:=R6 j n _ (k+1) (by omega) (by omega) (by omega) y;rw[Aen d];intro p i;rcases Acl.1 i with rfl|i
      ·exact⟨by omega,G⟩
      ·exact K p i
  ·rw[Aee d];intro p i;cases i
def TU {N:Nat}{b:AF}(s:II b) (d:∀l∈b.C,KY b l):∀(n k:Nat),k≤b.C.length→Cc N b (Dr N) n (k:Int)=some true→∀l∈b.C.drop k,l.As.length≤32∧l.Ae.Aw.length≤32∧l.Ae.Ax.length≤32
 |0,k,t,B=>by cases B
 |n+1,k,t,B=>by
  have u:=s.li;simp only[Cc] at B;rcases Acy k b.C.length with c|c
  ·rw[FA c,Acc,BG c,Acb] at B;obtain⟨_,_,B⟩:=bd B;obtain⟨_,_,B⟩:=bd B;obtain⟨_,_,B⟩:=bd B;obtain⟨_,_,B⟩:=bd B;obtain⟨j,_,B⟩:=bd B;obtain⟨m,a,o⟩:=bd B;cases m with
   |true=>cases o
   |false=>
    rw[Acd,BA (by omega)] at o;have v:=TU s d n (k+1) c o;rw[Aen c];intro l q;rcases Acl.1 q with rfl|q
    ·by_cases g:(b.C[k]).G=0
     ·obtain⟨w,x,z,_⟩:=(d _ (Acw c)).gate g;exact⟨w.2.1,x.2.1,z.2.1⟩
     ·cases j with
      |true=>cases a
      |false=>
       rw[Acd] at a;obtain⟨y,i,a⟩:=bd a;unfold Fh at i;rw[Ack g,Bool.not_false,Bool.true_and] at i;cases hd:(((decide (0<((b.C[k]).As.length:Int))||decide (0<((b.C[k]).Ae.Aw.length:Int)))||decide (0<((b.C[k]).Ae.Ax.length:Int)))||decide ((b.C[k]).Bc≠0)) with
       |true=>rw[hd,Acc] at i;cases i;cases a
       |false=>
        simp only[Ac9,Ac2] at hd;omega
    ·exact v l q
  ·rw[Aee c];intro p A;cases A
def jU {N:Nat}(j:18446744073709551616<N) {b:AF}(o:Gv N b=some true):iI b:=by
 obtain⟨k,_,g,i⟩:=Ro j o;have m:=k.head.own;have n:=k.head.pl;refine⟨?_,?_,?_⟩
 ·unfold Gv at o;obtain⟨l,a,o⟩:=bd o;cases l with
  |false=>
   simp only[Acd,Acb] at o;cases o
  |true=>
   unfold IB at a;obtain⟨_,_,a⟩:=bd a;obtain⟨_,_,a⟩:=bd a;obtain⟨_,_,a⟩:=bd a;obtain⟨d,c,a⟩:=bd a;cases d with
   |true=>cases a
   |false=>
    by_cases e:(b.Aj.length:Int)≠3
    ·rw[Acx e,Bool.or_true,Acc] at c;cases c
    ·omega
 ·unfold Hb at g;exact R6 k.head N 0 0 (by omega) (by omega) (Aci _) g
 ·unfold FH at i;exact TU k.head k.links N 0 (Aci _) i
def VL {N:Nat}(m:8000000000000<N) {s:AI}(o:s.H.length≤1000) (b:∀x∈s.H,x.length≤1000) (p:s.N.length≤1000) (c:s.I.length≤4000000000000) (d:∀l∈s.I,l.V.length≤1000) (q:s.P.length≤1000) (t:s.D.length≤1000) (u:s.O.length≤1000):Is N s=some s:=by
 unfold Is;rw[lC (by omega),Acb];have g:=Mu s.H.length (λn i=>D6 N s.H (Ef N s) n i s.H) (Ef N s s.H) (λn k a=>by
  simp only[D6];rw[Fj a];rfl) (λn k a=>by
  simp only[D6];rw[FA a,Acc,BG a];simp only[Acb];rw[PH (by have:=b _ (Acw a);omega),Acb,MF a,BA (by omega)]) N 0 (by omega) (Aci _)
 rw[show D6 N s.H (Ef N s) N 0 s.H=_ from g];unfold Ef;rw[lA c,Acb];have j:=Mu s.I.length (λn i=>D5 N s.I (Ee N s s.H) n i s.I) (Ee N s s.H s.I) (λn k a=>by
  simp only[D5];rw[Fj a];rfl) (λn k a=>by
  simp only[D5];rw[FA a,Acc,BG a];simp only[Acb];rw[PH (by have:=d _ (Acw a);omega),Acb,MF a,BA (by omega)]) N 0 (by omega) (Aci _)
 rw[show D5 N s.I (Ee N s s.H) N 0 s.I=_ from j];unfold Ee;rw[PH (by omega),Acb,lD (by omega),Acb,PH (by omega),Acb,PH (by omega),Acb]
def VN {N:Nat}(p:8000000000000<N) {b:AF}(c:KG b) (d:iI b):Iu N b=some b:=by
 have q:=c.head.own;have s:=c.head.pl;have t:=c.head.li;have u:=c.head.to;have v:=c.head.ga;have w:=c.head.ro;have x:=c.head.sh;have y:=d.rm;unfold Iu;rw[sH (by omega),Acb,fR (by omega),Acb];have g:=Mu b.A.length (λn i=>D8 N b.A (Eh N b b.J) n i b.A) (Eh N b b.J b.A) (λn k a=>by
  simp only[D8];rw[Fj a];rfl) (λn k a=>by
  simp only[D8];have j:=(c.places _ (Acw a)).lev.2.1;obtain⟨l,m⟩:=d.pl _ (Acw a);rw[FA a,Acc,BG a];simp only[Acb];rw[RI (by omega)];simp only[Acb];rw[MF a,BG a];simp only[Acb];rw[PH (by omega)];simp only[Acb];rw[MF a,BG a];simp only[Acb];rw[lE (by omega)];simp only[Acb];rw[MF a,BA (by omega)]) N 0 (by omega) (Aci _)
 rw[show D8 N b.A (Eh N b b.J) N 0 b.A=_ from g];unfold Eh;rw[lB (by omega),Acb];have o:=Mu b.C.length (λn i=>D7 N b.C (Eg N b b.J b.A) n i b.C) (Eg N b b.J b.A b.C) (λn k a=>by
  simp only[D7];rw[Fj a];rfl) (λn k a=>by
  simp only[D7];obtain⟨j,l,m⟩:=d.li _ (Acw a);rw[FA a,Acc,BG a];simp only[Acb];rw[RI (by omega)];simp only[Acb];rw[MF a,BG a];simp only[Acb];rw[RI (by omega)];simp only[Acb];rw[MF a,BG a];simp only[Acb];rw[RI (by omega)];simp only[Acb];rw[MF a,BA (by omega)]) N 0 (by omega) (Aci _)
 rw[show D7 N b.C (Eg N b b.J b.A) N 0 b.C=_ from o];unfold Eg;rw[kX (by omega),Acb,fS (by omega),Acb,kZ (by omega),Acb,kY (by omega),Acb,PH (by omega),Acb]
def VM {N:Nat}{i:AN}(j:Z4 i):It N i=some i:=by
 obtain⟨a,b,c,d,g⟩:=j;unfold It;rw[PH (by omega),Acb];unfold DU Dn Da Db;rw[F7 (by simp;omega),Acb,F7 (by simp;omega),Acb,F7 (by simp;omega),Acb,F7 (by simp;omega),Acb];rfl
def Ym {α}{N:Nat}(a b:List α) (s:a.length=b.length) (u:a.length<N) (f:Nat→Int→Option Bool) (q:α→α→Bool) (l:∀x y,q x y=true↔x=y) (c:∀n (k:Nat),a.length≤k→f (n+1) (k:Int)=some true) (d:∀n (k:Nat) (m:k<a.length) (g:k<b.length),f (n+1) (k:Int)=cond (q a[k] b[k]) (f n ((k+1:Nat):Int)) (some false)):∃v,f N 0=some v∧(v=true↔a=b):=by
 rcases WW a.length f (some true) (λk=>match a[k]?,b[k]? with|some x,some y=>q x y|_,_=>true) c (λn k o=>by
  have g:k<b.length:=by omega
  rw[d n k o g,Acn o,Acn g]) N 0 (by omega) (Aci _) with ⟨m,g⟩|⟨⟨i,_,h3,j⟩,h5⟩
 ·refine⟨true,g,λ_=>List.ext_getElem s λi p t=>?_,λ_=>rfl⟩;have:=m i (Aci _) p;rw[Acn p,Acn t] at this;exact(l _ _).1 this
 ·refine⟨false,h5,λw=>(by cases w),λw=>?_⟩;subst w;rw[Acn h3] at j;have j:q a[i] a[i]=false:=j;rw[(l _ _).2 rfl] at j;cases j
def xT {N:Nat}(l:8000000000000<N) (a b:List Int) (m:a.length≤1000):∃v,CQ N a b=some v∧(v=true↔a=b):=by
 unfold CQ;by_cases e:a.length=b.length
 ·rw[Ack (by omega),Acd];exact Ym a b e (by omega) (λn i=>Du N a b (GX N) n i) (λx y=>decide (x=y)) (λx y=>decide_eq_true_iff) (λn k g=>by
   simp only[Du];rw[Fj g];rfl) (λn k d j=>by
   simp only[Du];rw[FA d,Acc,BG d,BG j];simp only[Acb];rw[BA (by omega)];by_cases c:a[k]=b[k]
   ·rw[Ack (by simpa using c),Acx c];rfl
   ·rw[Acx (by simpa using c),Ack c];rfl)
 ·rw[Acx (by omega),Acc];exact⟨false,rfl,λm=>(by cases m),λm=>absurd (Ach List.length m) e⟩
def kR {α}{N:Nat}(m:8000000000000<N) (vv:α→List Value) (g:∀x y,RE (vv x) (vv y)=true↔x=y) (a b:List α) (o:a.length≤1000) (f:List α→List α→Option Bool→Nat→Int→Option Bool) (c:∀a b kj n i,f a b kj (n+1) i=cond (decide (i<(a.length:Int))) ((ix a i).bind λx=>(ix b i).bind λy=>cond (!(RE (vv x) (vv y))) (some false) (f a b kj n (BT (i+1)))) kj):∃v,cond (decide ((a.length:Int)≠(b.length:Int))) (some false) (f a b (some true) N 0)=some v∧(v=true↔a=b):=by
 by_cases e:a.length=b.length
 ·rw[Ack (by omega),Acd];exact Ym a b e (by omega) (λn i=>f a b (some true) n i) (λx y=>RE (vv x) (vv y)) g (λn k j=>by
   simp only[c];rw[Fj j];rfl) (λn k d l=>by
   simp only[c];rw[FA d,Acc,BG d,BG l];simp only[Acb];rw[BA (by omega)];cases RE (vv a[k]) (vv b[k])<;>rfl)
 ·rw[Acx (by omega),Acc];exact⟨false,rfl,λo=>(by cases o),λo=>absurd (Ach List.length o) e⟩
def Zv (x y:Gz):RE x.v y.v=true↔x=y:=by cases x;cases y;simp [RE,Vs,Gz.v]
def kS (x y:LK):RE x.v y.v=true↔x=y:=by cases x;cases y;simp [RE,Vs,LK.v]
def fA (x y:FL):RE x.v y.v=true↔x=y:=by cases x;cases y;simp [RE,Vs,FL.v]
def fC (x y:Ix):RE x.v y.v=true↔x=y:=by cases x;cases y;simp [RE,Vs,Ix.v]
def RN {p q:Prop}{x:Option Bool}{b:Bool}(d:∃v,x=some v∧(v=true↔q)) (a:b=true↔p):∃v,cond b (x.bind λy=>some y) (some false)=some v∧(v=true↔p∧q):=by
 obtain⟨v,rfl,c⟩:=d;cases b with
 |false=>exact⟨false,rfl,λd=>(by cases d),λd=>absurd (a.2 d.1) (by simp)⟩
 |true=>exact⟨v,rfl,λd=>⟨a.1 rfl,c.1 d⟩,λd=>c.2 d.2⟩
def Uw {N:Nat}(g:8000000000000<N) (x y:AN) (W:Z4 x):∃v,Ir N x y=some v∧(v=true↔x=y):=by
 obtain⟨G,H,I,J,K⟩:=W;have j:∃v,JR N (⟨x.S,y.S⟩:DI)=some v∧(v=true↔x.S=y.S):=by
  obtain⟨v,e,k⟩:=xT g x.S y.S (by omega);exact⟨v,by unfold JR;simp only[e,Acb],k⟩
 have l:∃v,Es N (⟨x.X,y.X⟩:J6)=some v∧(v=true↔x.X=y.X):=by
  obtain⟨v,e,k⟩:=kR g Gz.v Zv x.X y.X (by omega) (λa b kj n i=>CC N a b kj n i) (λ_ _ _ _ _=>rfl);exact⟨v,by unfold Es DT CW;simp only[e,Acb],k⟩
 have m:∃v,FU N (⟨x.Y,y.Y⟩:NU)=some v∧(v=true↔x.Y=y.Y):=by
  obtain⟨v,e,k⟩:=kR g LK.v kS x.Y y.Y (by omega) (λa b kj n i=>CM N a b kj n i) (λ_ _ _ _ _=>rfl);exact⟨v,by unfold FU Dk Cs;simp only[e,Acb],k⟩
 have o:∃v,Ez N (⟨x.U,y.U⟩:LH)=some v∧(v=true↔x.U=y.U):=by
  obtain⟨v,e,k⟩:=kR g FL.v fA x.U y.U (by omega) (λa b kj n i=>CH N a b kj n i) (λ_ _ _ _ _=>rfl);exact⟨v,by unfold Ez DY Cd;simp only[e,Acb],k⟩
 have p:∃v,E4 N (⟨x.Ad,y.Ad⟩:LI)=some v∧(v=true↔x.Ad=y.Ad):=by
  obtain⟨v,e,k⟩:=kR g Ix.v fC x.Ad y.Ad (by omega) (λa b kj n i=>CI N a b kj n i) (λ_ _ _ _ _=>rfl);exact⟨v,by unfold E4 DZ Ce;simp only[e,Acb],k⟩
 unfold Ir;obtain⟨v1,q,s⟩:=j;obtain⟨M,t,u⟩:=RN l s;obtain⟨Q,w,z⟩:=RN m u;obtain⟨V,A,B⟩:=RN o z;obtain⟨C,D,F⟩:=RN p B;rw[q,Acb,t,Acb,w,Acb,A,Acb,D,Acb];refine⟨C,rfl,F.trans ?_⟩;constructor
 ·rintro⟨⟨⟨⟨a,b⟩,c⟩,d⟩,e⟩;cases x;cases y;simp_all
 ·rintro rfl;exact⟨⟨⟨⟨rfl,rfl⟩,rfl⟩,rfl⟩,rfl⟩
def bP {vs a:List (Int×DL)}{k:Int}:CV (vs++a) k=(CV vs k).or (CV a k):=by
 unfold CV;rw[Afn];cases vs.find? λe=>decide (e.1=k)<;>rfl
def O0 {k:Int}:CV [] k=none:=rfl
def LM {e:Int×DL}{vs:List (Int×DL)}{k:Int}:CV (e::vs) k=if e.1=k then some e.2 else CV vs k:=by
 unfold CV;rw[Ae4];by_cases a:e.1=k
 ·rw[Acx a,Acf a];rfl
 ·rw[Ack a,Ace a]
def Sw {p k:Int}{y:DL}:∀{vs:List (Int×DL)},CV (MJ vs p y) k=if k=p then (CV vs p).map (λ_=>y) else CV vs k
 |[]=>by simp [MJ,O0]
 |e::vs=>by
  have b:=Sw (p:=p) (k:=k) (y:=y) (vs:=vs);unfold MJ at b ⊢;rw[Acz,LM,LM,LM,b];by_cases c:e.1=p
  ·subst c;by_cases a:k=e.1
   ·subst a;simp
   ·simp [a,Ne.symm a]
  ·by_cases a:k=p
   ·subst a;simp [c]
   ·simp [c,a]
def V5 {vs:List (Int×DL)}{p c k:Int}{x y z:DL}(b:CV vs p=some x) (i:CV vs c=none):CV (MJ vs p y++[(c,z)]) k=if k=c then some z else if k=p then some y else CV vs k:=by
 rw[bP,Sw,LM,O0,b];have d:p≠c:=λe=>by rw[e,i] at b;cases b
 by_cases g:k=c
 ·subst g;rw[Acf rfl,Ace (Ne.symm d),i,Acf rfl];rfl
 ·rw[Ace g,Ace (Ne.symm g)];by_cases a:k=p
  ·rw[Acf a,Acf a];rfl
  ·rw[Ace a,Ace a];cases CV vs k<;>rfl
def cK (ks:List Int) (x:DL):DL:={ x with kids:=x.kids.filter λk=>ks.contains k}
def RZ {vs:List (Int×DL)}{ks:List Int}{k:Int}:CV (LV vs ks) k=if k∈ks then (CV vs k).map (cK ks) else none:=by
 unfold LV;suffices g:∀c:List Int,CV (c.filterMap λi=>(CV vs i).map λx=>(i,{ x with kids:=x.kids.filter λk=>ks.contains k})) k=if k∈c then (CV vs k).map (cK ks) else none from g ks
 intro c
 induction c with
 |nil=>rfl
 |cons i c b=>
  rw[Afk];cases d:CV vs i with
  |none=>
   simp only[Option.map_none];rw[b];by_cases a:k=i
   ·subst a;rw[d];simp
   ·simp [a]
  |some x=>
   simp only[Aed];rw[LM,b];by_cases a:i=k
   ·subst a;rw[Acf rfl,d];simp [cK]
   ·rw[Ace a];simp [Ne.symm a]
structure VK (N:Nat) (b:AF) (s:AI) (vs:List (Int×DL)) (c:Nat):Prop where
 key:∀k x,CV vs k=some x→0≤k∧k<(c:Int)
 root:∃x,CV vs 0=some x∧x.par= -1∧x.st=s
 node:∀k x,CV vs k=some x→k≠0→∃y ms pk,0≤x.par∧x.par<k∧CV vs x.par=some y∧zR N b y.st x.inp (x.st,ms,pk)
 kid:∀k x j,CV vs k=some x→j∈x.kids→∃z,CV vs j=some z∧z.par=k
 all:∀j z,CV vs j=some z→j≠0→∃y,CV vs z.par=some y∧j∈y.kids
 ql:∀k x,CV vs k=some x→Zz b x.st∧(x.st.I.length:Int)≤s.I.length+232*k∧x.kids.length≤c∧Z4 x.inp
 len:vs.length≤c
def VK.par {N:Nat}{b:AF}{s:AI}{vs:List (Int×DL)}{c:Nat}(n:VK N b s vs c) {k:Int}{x:DL}(i:CV vs k=some x):x.par<k∧(k≠0→(CV vs x.par).isSome=true)∧(k=0→x.par= -1):=by
 by_cases e:k=0
 ·subst e;obtain⟨y,a,d,_⟩:=n.root;rw[i] at a;cases a;exact⟨by omega,λg=>absurd rfl g,λ_=>d⟩
 ·obtain⟨y,l,m,a,d,j,_⟩:=n.node k x i e;exact⟨d,λ_=>by rw[j];rfl,λg=>absurd g e⟩
def VK.neg1 {N:Nat}{b:AF}{s:AI}{vs:List (Int×DL)}{c:Nat}(g:VK N b s vs c) {k:Int}(d:k<0):CV vs k=none:=by
 cases a:CV vs k with
 |none=>rfl
 |some x=>have:=(g.key k x a).1;omega
def VK.big {N:Nat}{b:AF}{s:AI}{vs:List (Int×DL)}{c:Nat}(g:VK N b s vs c) {k:Int}(d:(c:Int)≤k):CV vs k=none:=by
 cases a:CV vs k with
 |none=>rfl
 |some x=>have:=(g.key k x a).2;omega
def VK.add {N:Nat}{b:AF}{s:AI}{vs:List (Int×DL)}{c:Nat}(h:VK N b s vs c) {p:Int}{x:DL}(u:CV vs p=some x) {inp:AN}(Y:Z4 inp) {y:AI×List AX×List Int}(o:zR N b x.st inp y):VK N b s (MJ vs p { x with kids:=x.kids++[(c:Int)]}++[((c:Int),⟨p,inp,y.1,[]⟩)]) (c+1):=by
 have W:CV vs (c:Int)=none:=h.big (Add _);obtain⟨F,G⟩:=h.key p x u;have v:=λk=>V5 (k:=k) (y:={ x with kids:=x.kids++[(c:Int)]}) (z:=⟨p,inp,y.1,[]⟩) u W;generalize Z:MJ vs p { x with kids:=x.kids++[(c:Int)]}++[((c:Int),(⟨p,inp,y.1,[]⟩:DL))]=V at v ⊢
 have A:∀k z,CV vs k=some z→∃a,CV V k=some a∧a.par=z.par∧a.inp=z.inp∧a.st=z.st∧∀j∈z.kids,j∈a.kids:=λk z d=>by
  have H:k≠c:=λe=>by rw[e,W] at d;cases d
  rw[v,Ace H];by_cases e:k=p
  ·subst e;rw[u] at d;cases d;exact⟨_,Acf rfl,rfl,rfl,rfl,λj i=>Aef _ i⟩
  ·exact⟨z,by rw[Ace e];exact d,rfl,rfl,rfl,λj i=>i⟩
 have g:∀k a,CV V k=some a→(k=c∧a=⟨p,inp,y.1,[]⟩)∨(k≠c∧∃z,CV vs k=some z∧a.par=z.par∧a.inp=z.inp∧a.st=z.st∧(∀j∈a.kids,j∈z.kids∨(j=c∧k=p))∧a.kids.length≤z.kids.length+1):=λk a d=>by
  rw[v] at d;by_cases e:k=c
  ·rw[Acf e] at d;cases d;exact .inl ⟨e,rfl⟩
  ·rw[Ace e] at d;by_cases D:k=p
   ·rw[Acf D] at d;cases d;refine .inr ⟨e,x,by rw[D];exact u,rfl,rfl,rfl,λj i=>?_,by simp⟩;rcases Ac7.1 i with i|i
    ·exact .inl i
    ·exact .inr ⟨Ac3.1 i,D⟩
   ·rw[Ace D] at d;exact .inr ⟨e,a,d,rfl,rfl,rfl,λj i=> .inl i,by omega⟩
 have J:CV V (c:Int)=some ⟨p,inp,y.1,[]⟩:=by rw[v,Acf rfl]
 have aa:=h.ql p x u;refine⟨λk a d=>?_,?_,λk a d K=>?_,λk a j d i=>?_,λj a d M=>?_,λk a d=>?_,?_⟩
 ·rcases g k a d with ⟨rfl,_⟩|⟨_,z,l,_⟩
  ·omega
  ·have:=h.key k z l;omega
 ·obtain⟨z,l,n,B⟩:=h.root;obtain⟨a,m,Q,_,C,_⟩:=A 0 z l;exact⟨a,m,Q.trans n,C.trans B⟩
 ·rcases g k a d with ⟨rfl,rfl⟩|⟨_,z,l,n,B,h4,_⟩
  ·obtain⟨x',m,_,_,C,_⟩:=A p x u;exact⟨x',y.2.1,y.2.2,F,G,m,by rw[C];exact o⟩
  ·obtain⟨w,ms,pk,q,t,X,U⟩:=h.node k z l K;obtain⟨w',m,_,_,C,_⟩:=A _ w X;exact⟨w',ms,pk,by rw[n];exact q,by rw[n];exact t,by rw[n];exact m,by rw[C,B,h4];exact U⟩
 ·rcases g k a d with ⟨_,rfl⟩|⟨_,z,l,_,_,_,h5,_⟩
  ·cases i
  ·rcases h5 j i with i|⟨rfl,rfl⟩
   ·obtain⟨w,q,t⟩:=h.kid k z j l i;obtain⟨w',m,Q,_⟩:=A j w q;exact⟨w',m,Q.trans t⟩
   ·exact⟨_,J,rfl⟩
 ·rcases g j a d with ⟨rfl,rfl⟩|⟨_,z,l,n,_⟩
  ·exact⟨{ x with kids:=x.kids++[(c:Int)]},by show CV V p=_;rw[v,Ace (by omega),Acf rfl],by simp⟩
  ·obtain⟨w,q,t⟩:=h.all j z l M;obtain⟨w',m,_,_,_,k5⟩:=A _ w q;exact⟨w',by rw[n];exact m,k5 j t⟩
 ·rcases g k a d with ⟨rfl,rfl⟩|⟨_,z,l,_,B,h4,_,h6⟩
  ·have ab:=o.ql;exact⟨o.rg,by show(y.1.I.length:Int)≤_;omega,Aci _,Y⟩
  ·obtain⟨q,t,X,U⟩:=h.ql k z l;exact⟨by rw[h4];exact q,by rw[h4];exact t,by omega,by rw[B];exact U⟩
 ·rw[←Z,Ac6];have:=h.len;simp [MJ];exact this
def oV {N:Nat}(m:8000000000000<N) {vs:List (Int×DL)}{p:Int}{ks:List Int}{inp:AN}{fd:Int→Option (Int×Int×Option Eu)}{kj:Option (Int×Int×Option Eu)}(d:∀k∈ks,k≠p∧∃z,CV vs k=some z∧Z4 z.inp) (o:ks.length≤1000):∀(n i:Nat),ks.length<n+i→i≤ks.length→(∃k∈ks,∃z,CV vs k=some z∧z.inp=inp∧Eq N vs p ks inp fd kj n (i:Int)=fd k)∨((∀k∈ks.drop i,∀z,CV vs k=some z→z.inp≠inp)∧Eq N vs p ks inp fd kj n (i:Int)=kj)
 |0,i,w,q=>by omega
 |n+1,i,w,q=>by
  simp only[Eq];rcases Acy i ks.length with a|a
  ·obtain⟨s,z,g,j⟩:=d _ (Acw a);rw[FA a,Acc,BG a,Acb,Ack s,Acd,g,Acb];obtain⟨v,t,kv⟩:=Uw m z.inp inp j;rw[t,Acb];cases v with
   |true=>exact .inl ⟨_,Acw a,z,g,kv.1 rfl,rfl⟩
   |false=>
    rw[Acd,BA (by omega)];rcases oV m d o n (i+1) (by omega) a with l|⟨l,h3⟩
    ·exact .inl l
    ·refine .inr ⟨λk b u c=>?_,h3⟩;rw[Aen a] at b;rcases Acl.1 b with rfl|b
     ·rw[g] at c;cases c;exact λe=>by have:=kv.2 e;cases this
     ·exact l k b u c
  ·rw[Fj a,Acd,Aee a];exact .inr ⟨λk d=>by(cases d),rfl⟩
def uG {N:Nat}(G:18446744073709551616<N) {b:AF}(H:mT b) {s:AI}(U:s.I.length+100000≤4000000000000) {vs:List (Int×DL)}{c:Nat}(h:VK N b s vs c) (V:c≤200) {inp:AN}(j:Z4 inp) (p:Int):
  (CV vs p=none∧Do N (some ⟨b,vs,c⟩) p inp=some (0,11,some ⟨b,vs,c⟩))∨∃x,CV vs p=some x∧
   ((x.st.B=16777216∧Do N (some ⟨b,vs,c⟩) p inp=some (0,15,some ⟨b,vs,c⟩))∨
   (x.st.B<16777216∧∃k z,CV vs k=some z∧k≠0∧z.par=p∧z.inp=inp∧Do N (some ⟨b,vs,c⟩) p inp=some (k,0,some ⟨b,vs,c⟩))∨
   (x.st.B<16777216∧(∀k z,CV vs k=some z→k≠0→z.par=p→z.inp≠inp)∧∃y d,zR N b x.st inp y∧d=MJ vs p { x with kids:=x.kids++[(c:Int)]}++[((c:Int),⟨p,inp,y.1,[]⟩)]∧Do N (some ⟨b,vs,c⟩) p inp=some ((c:Int),0,some ⟨b,d,((c+1:Nat):Int)⟩)∧VK N b s d (c+1))):=by
 unfold Do;rw[Acb];cases i:CV vs p with
 |none=>exact .inl ⟨rfl,rfl⟩
 |some x=>
  refine .inr ⟨x,rfl,?_⟩;obtain⟨v,W,X,Y⟩:=h.ql p x i;obtain⟨J,K⟩:=h.key p x i;have Z:=v.rg.hour;simp only[Option.isSome_some,Adg,Acd,Acb];by_cases l:x.st.B=16777216
  ·rw[Acx l,Acc];exact .inl ⟨l,rfl⟩
  ·rw[Ack l,Acd];have g:x.st.B<16777216:=by omega
   refine .inr ?_;have m:∀k∈x.kids,k≠p∧∃z,CV vs k=some z∧Z4 z.inp:=λk n=>by
    obtain⟨z,a,A⟩:=h.kid p x k i n;have:=(h.par a).1;exact⟨by omega,z,a,(h.ql k z a).2.2.2⟩
   rcases oV (N:=N) (by omega) (fd:=λk=>some (k,0,some ⟨b,vs,c⟩)) (kj:=IK N ⟨b,vs,c⟩ p inp x) (inp:=inp) m (by omega) N 0 (by omega) (Aci _) with ⟨k,n,z,a,A,q⟩|⟨a,q⟩
   ·obtain⟨z',C,M⟩:=h.kid p x k i n;rw[a] at C;cases C;have:=(h.par a).1;exact .inl ⟨g,k,z,a,by omega,M,A,q⟩
   ·rw[List.drop_zero] at a;obtain⟨y,o⟩:=dC G H v g (by omega) j;have hl:=h.len;refine .inr ⟨g,λk z D t u=>?_,y,_,o,rfl,?_,h.add i j o⟩
    ·obtain⟨w,F,Q⟩:=h.all k z D t;rw[u,i] at F;cases F;exact a k Q z D
    ·rw[show Eq N vs p x.kids inp _ _ N 0=_ from q];unfold IK;rw[Ack (by show ¬4096≤(vs.length:Int);omega),Acd,VM j,Acb,o.er,Acb,show CV vs (c:Int)=none from h.big (Add _)];simp only[Afi,Acd];rw[F7 (by omega),BA (by omega)]
def UD (vs:List (Int×DL)):Nat→Int→List Int
 |0,_=>[]
 |n+1,id=>match CV vs id with
  |none=>[]
  |some x=>id::UD vs n x.par
def KO {vs:List (Int×DL)}{n:Nat}{id:Int}(a:CV vs id=none):UD vs n id=[]:=by
 cases n with
 |zero=>rfl
 |succ n=>unfold UD;rw[a]
def MG {vs:List (Int×DL)}{n:Nat}{id:Int}{x:DL}(a:CV vs id=some x):UD vs (n+1) id=id::UD vs n x.par:=by
 rw[UD,a]
def Vz {N:Nat}{b:AF}{s:AI}{vs:List (Int×DL)}{c:Nat}(i:VK N b s vs c):∀(m k:Nat) (id:Int),id<m→m≤k→UD vs k id=UD vs m id
 |0,k,id,d,_=>by rw[KO (i.neg1 d)];rfl
 |m+1,k,id,d,g=>by
  cases a:CV vs id with
  |none=>rw[KO a,KO a]
  |some x=>
   obtain⟨k,rfl⟩:∃j,k=j+1:=⟨k-1,by omega⟩
   have:=(i.par a).1;rw[MG a,MG a,Vz i m k x.par (by omega) (by omega)]
def X7 {vs:List (Int×DL)}:∀(m:Nat) (id:Int),(UD vs m id).length≤m
 |0,_=>Acr _
 |m+1,id=>by
  cases a:CV vs id with
  |none=>rw[KO a];exact Aci _
  |some x=>rw[MG a,Aei];have:=X7 (vs:=vs) m x.par;omega
def dA {N:Nat}{b:AF}{s:AI}{vs:List (Int×DL)}{c:Nat}(k:VK N b s vs c) {M:Nat}:∀(m n:Nat) (l:List Int) (id:Int),id<m→m<n→l.length+m≤1000→Dh M vs n l id=some (l++UD vs m id)
 |0,n,l,id,d,g,_=>by
  obtain⟨n,rfl⟩:∃j,n=j+1:=⟨n-1,by omega⟩
  simp only[Dh];rw[k.neg1 d];simp [UD]
 |m+1,n,l,id,d,g,i=>by
  obtain⟨n,rfl⟩:∃j,n=j+1:=⟨n-1,by omega⟩
  simp only[Dh];cases a:CV vs id with
  |none=>rw[KO a];simp
  |some x=>
   have:=(k.par a).1;simp only[Option.isSome_some,Acc,Acb];rw[F7 (by omega),dA k m n (l++[id]) x.par (by omega) (by omega) (by simp;omega),MG a];simp
def W4 (l:List Int) (i:Nat):List Int:=(List.range l.length).map λk=>if k<i∨l.length≤k+i then l.getD (l.length-1-k) 0 else l.getD k 0
def Qp {l:List Int}{i k:Nat}(a:k<l.length):(W4 l i)[k]? =some (if k<i∨l.length≤k+i then l.getD (l.length-1-k) 0 else l.getD k 0):=by
 unfold W4;rw[Ad4,Aft a];rfl
def Pk {l:List Int}{i:Nat}:(W4 l i).length=l.length:=by simp [W4]
def wJ {l:List Int}:W4 l 0=l:=by
 apply Adl;intro k;by_cases a:k<l.length
 ·rw[Qp a,Ace (by omega),Adp,Acn a];rfl
 ·rw[Ac8 (by rw[Pk];omega),Ac8 (by omega)]
def jC {l:List Int}{i:Nat}(c:l.length≤2*i+1):W4 l i=l.reverse:=by
 apply Adl;intro k;by_cases a:k<l.length
 ·rw[Qp a,List.getElem?_reverse a,Acn (by omega)];by_cases b:k<i∨l.length≤k+i
  ·rw[Acf b,Adp,Acn (by omega)];rfl
  ·rw[Ace b,Adp,Acn a];simp only[Ad0];have:l.length-1-k=k:=by omega
   simp only[this]
 ·rw[Ac8 (by rw[Pk];omega),Ac8 (by simp;omega)]
def bU {l:List Int}{i k:Nat}(a:k<l.length) (b:i≤k) (c:k+i<l.length):ix (W4 l i) (k:Int)=some (l.getD k 0):=by
 unfold ix;rw[Ace (by omega),Adm,Qp a,Ace (by omega)]
def bT {l:List Int}{i:Nat}(g:2*i+1<l.length):((W4 l i).set i (l.getD (l.length-1-i) 0)).set (l.length-1-i) (l.getD i 0)=W4 l (i+1):=by
 apply Adl;intro k;by_cases a:k<l.length
 ·rw[List.getElem?_set,List.getElem?_set,Qp a,Qp a];simp only[List.length_set,Pk];by_cases b:l.length-1-i=k
  ·subst b;rw[Acf rfl,Acf a,Acf (by omega)];congr 2;omega
  ·rw[Ace b];by_cases c:i=k
   ·subst c;rw[Acf rfl,Acf a,Acf (by omega)]
   ·rw[Ace c];by_cases d:k<i∨l.length≤k+i
    ·rw[Acf d,Acf (by omega)]
    ·rw[Ace d,Ace (by omega)]
 ·rw[Ac8 (by simp [Pk];omega),Ac8 (by rw[Pk];omega)]
def nP {N:Nat}{l:List Int}(b:l.length≤1000):∀(n i:Nat),l.length<n+i→2*i≤l.length→Dx N n (i:Int) ((l.length:Int)-1-i) (W4 l i)=some l.reverse
 |0,i,c,d=>by omega
 |n+1,i,c,d=>by
  simp only[Dx];by_cases g:2*i+1<l.length
  ·have j:(l.length:Int)-1-i=((l.length-1-i:Nat):Int):=by omega
   have k:ix (W4 l i) ((l.length-1-i:Nat):Int)=some (l.getD (l.length-1-i) 0):=bU (by omega) (by omega) (by omega);have m:ix (W4 l i) (i:Int)=some (l.getD i 0):=bU (by omega) (by omega) (by omega);have a:∃z,ix (upd (W4 l i) (i:Int) (l.getD (l.length-1-i) 0)) ((l.length-1-i:Nat):Int)=some z:=by
    refine⟨_,BG (l:=upd (W4 l i) (i:Int) (l.getD (l.length-1-i) 0)) (i:=l.length-1-i) ?_⟩;simp [upd,Pk];omega
   obtain⟨z,a⟩:=a;rw[j,Acx (by omega),Acc,k,m];simp only[Acb];rw[a];simp only[Acb];have o:upd (upd (W4 l i) (i:Int) (l.getD (l.length-1-i) 0)) ((l.length-1-i:Nat):Int) (l.getD i 0)=W4 l (i+1):=bT g;rw[o,BA (by omega),EM (by omega) (by omega),show((l.length-1-i:Nat):Int)-1=(l.length:Int)-1-((i+1:Nat):Int) by omega];exact nP b n (i+1) (by omega) (by omega)
  ·rw[Ack (by omega),Acd,jC (by omega)]
def qV {N:Nat}(b:8000000000000<N) {l:List Int}(a:l.length≤1000):Gq N l=some l.reverse:=by
 unfold Gq;rw[EM (by omega) (by omega)];have c:=nP (N:=N) a N 0 (by omega) (by omega);rw[wJ] at c;have e:(l.length:Int)-1-((0:Nat):Int)=(l.length:Int)-1:=by omega
 rw[e] at c;exact c
def jQ {N:Nat}(d:18446744073709551616<N) {b:AF}{s:AI}{vs:List (Int×DL)}{c:Nat}(i:VK N b s vs c) (g:c≤200) (id cr:Int):GD N (some ⟨b,vs,cr⟩) id=some (UD vs c id).reverse:=by
 unfold GD;rw[Acb];have e:Dh N vs N [] id=some (UD vs c id):=by
  cases a:CV vs id with
  |none=>
   obtain⟨M,rfl⟩:∃j,N=j+1:=⟨N-1,by omega⟩
   simp only[Dh];rw[a,KO a];rfl
  |some x=>
   have:=i.key id x a;exact dA i c N [] id this.2 (by omega) (by simp;omega)
 rw[show Dh N (Eu.vs ⟨b,vs,cr⟩) N [] id=_ from e,Acb];have:=X7 (vs:=vs) c id;exact qV (by omega) (by omega)
def zK {N:Nat}{b:AF}{vs:List (Int×DL)}{cr id:Int}:Hu N (some ⟨b,vs,cr⟩) id=some (match CV vs id with|none=>(st0,11)|some x=>(x.st,0)):=by
 unfold Hu;rw[Acb];cases CV vs id<;>rfl
def NW (vs:List (Int×DL)) (ks:List Int):Prop:=ks.Nodup∧(∀k∈ks,(CV vs k).isSome=true)∧∀k∈ks,k≠0→∀x,CV vs k=some x→x.par∈ks
def NW.anc {N:Nat}{b:AF}{s:AI}{vs:List (Int×DL)}{c:Nat}(j:VK N b s vs c) {ks:List Int}(i:NW vs ks):∀(m:Nat) (id:Int),id∈ks→∀k∈UD vs m id,k∈ks
 |0,id,_,k,a=>by cases a
 |m+1,id,d,k,a=>by
  cases g:CV vs id with
  |none=>rw[KO g] at a;cases a
  |some x=>
   rw[MG g] at a;rcases Acl.1 a with rfl|a
   ·exact d
   ·by_cases e:id=0
    ·rw[(j.par g).2.2 e,KO (j.neg1 (by omega))] at a;cases a
    ·exact NW.anc j i m x.par (i.2.2 id d e x g) k a
def wF {N:Nat}{b:AF}{s:AI}{vs:List (Int×DL)}{c:Nat}(J:VK N b s vs c):∀(m n:Nat) (ks:List Int) (id:Int),id<m→m<n→ks.Nodup→(∀k∈ks,(CV vs k).isSome=true)→(∀k∈ks,k≠0→∀x,CV vs k=some x→x.par∈ks∨x.par=id)→∃g,Dq vs n ks id=some g∧NW vs g∧∀k,k∈g↔k∈ks∨k∈UD vs m id:=by
 intro m
 induction m with
 |zero=>
  intro n ks id w B p q t;obtain⟨n,rfl⟩:∃j,n=j+1:=⟨n-1,by omega⟩
  simp only[Dq];rw[J.neg1 w];refine⟨ks,rfl,⟨p,q,λk d h0 x i=>?_⟩,λk=>by simp [UD]⟩;rcases t k d h0 x i with o|o
  ·exact o
  ·have:=(J.par i).2.1 h0;rw[o,J.neg1 w] at this;cases this
 |succ m C=>
  intro n ks id w B p q t;obtain⟨n,rfl⟩:∃j,n=j+1:=⟨n-1,by omega⟩
  simp only[Dq];cases i:CV vs id with
  |none=>
   refine⟨ks,rfl,⟨p,q,λk d h0 x l=>?_⟩,λk=>by rw[KO i];simp⟩;rcases t k d h0 x l with o|o
   ·exact o
   ·have:=(J.par l).2.1 h0;rw[o,i] at this;cases this
  |some x=>
   by_cases u:id∈ks
   ·have v:NW vs ks:=⟨p,q,λk d h0 x l=>(t k d h0 x l).elim (λe=>e) λe=>by rw[e];exact u⟩
    refine⟨ks,by simp [u],v,λk=>⟨.inl,λd=>d.elim (λe=>e) λe=>v.anc J _ _ u k e⟩⟩
   ·have A:=(J.par i).1;obtain⟨g,D,F,G⟩:=C n (ks++[id]) x.par (by omega) (by omega) (Afb.2 ⟨p,by simp,λa H b I e=>u (by rw[←Ac3.1 I,←e];exact H)⟩) (λk d=>by
     rcases Ac7.1 d with d|d
     ·exact q k d
     ·rw[Ac3.1 d,i];rfl) (λk d h0 y z=>by
     rcases Ac7.1 d with d|d
     ·rcases t k d h0 y z with e|e
      ·exact .inl (Aef _ e)
      ·exact .inl (by rw[e];simp)
     ·rw[Ac3.1 d,i] at z;cases z;exact .inr rfl)
    refine⟨g,by simpa [u] using D,F,λk=>?_⟩;rw[G,MG i,Ac7,Ac3,Acl,or_assoc]
def jP {N:Nat}(G:18446744073709551616<N) {b:AF}{s:AI}{vs:List (Int×DL)}{c:Nat}(J:VK N b s vs c) (H:c≤200) {keep:List Int}(I:keep.length≤1000):∀(n i:Nat) (ks:List Int),keep.length<n+i→i≤keep.length→NW vs ks→∃d,D9 N vs keep n ks (i:Int)=some d∧NW vs d∧∀k,k∈d↔k∈ks∨∃id∈keep.drop i,k∈UD vs c id:=by
 intro n
 induction n with
 |zero=>intro i ks u v;omega
 |succ n w=>
  intro i ks u v a;simp only[D9];rcases Acy i keep.length with g|g
  ·rw[FA g,Acc,BG g,Acb];have:∃l,Dq vs N ks keep[i]=some l∧NW vs l∧∀k,k∈l↔k∈ks∨k∈UD vs c keep[i]:=by
    by_cases p:keep[i]<(c:Int)
    ·exact wF J c N ks keep[i] p (by omega) a.1 a.2.1 λk q h0 x m=> .inl (a.2.2 k q h0 x m)
    ·have m:=J.big (k:=keep[i]) (by omega);obtain⟨M,rfl⟩:∃j,N=j+1:=⟨N-1,by omega⟩
     refine⟨ks,?_,a,λk=>by rw[KO m];simp⟩;simp only[Dq];rw[m];rfl
   obtain⟨l,y,z,A⟩:=this;rw[y,Acb,BA (by omega)];obtain⟨B,C,D,F⟩:=w (i+1) l (by omega) g z;refine⟨B,C,D,λk=>?_⟩;rw[F,A,Aen g];simp only[Acl];constructor
   ·rintro((a|a)|⟨id,t,o⟩)
    ·exact .inl a
    ·exact .inr ⟨_,.inl rfl,a⟩
    ·exact .inr ⟨id,.inr t,o⟩
   ·rintro(a|⟨id,rfl|t,o⟩)
    ·exact .inl (.inl a)
    ·exact .inl (.inr o)
    ·exact .inr ⟨id,t,o⟩
  ·rw[Fj g,Acd,Aee g];exact⟨ks,rfl,a,λk=>by simp⟩
def VK.kept {N:Nat}{b:AF}{s:AI}{vs:List (Int×DL)}{c:Nat}(K:VK N b s vs c) {ks:List Int}(D:NW vs ks) (h0:(0:Int)∈ks) (F:ks.length≤c):VK N b s (LV vs ks) c:=by
 have m:∀k g,CV (LV vs ks) k=some g→k∈ks∧∃z,CV vs k=some z∧g=cK ks z:=λk g a=>by
  rw[RZ] at a;by_cases e:k∈ks
  ·rw[Acf e] at a;obtain⟨z,d,t⟩:=Adt.1 a;exact⟨e,z,d,t.symm⟩
  ·rw[Ace e] at a;cases a
 have q:∀k z,k∈ks→CV vs k=some z→CV (LV vs ks) k=some (cK ks z):=λk z u a=>by
  rw[RZ,Acf u,a];rfl
 refine⟨λk g a=>?_,?_,λk g a n=>?_,λk g j a G=>?_,λj g a o=>?_,λk g a=>?_,?_⟩
 ·obtain⟨_,z,d,_⟩:=m k g a;exact K.key k z d
 ·obtain⟨x,d,t,H⟩:=K.root;exact⟨_,q 0 x h0 d,t,H⟩
 ·obtain⟨p,z,d,rfl⟩:=m k g a;obtain⟨y,I,J,i,l,v,A⟩:=K.node k z d n;exact⟨_,I,J,i,l,q _ y (D.2.2 k p n z d) v,A⟩
 ·obtain⟨p,z,d,rfl⟩:=m k g a;obtain⟨B,C⟩:=Ads.1 G;obtain⟨w,i,l⟩:=K.kid k z j d B;exact⟨_,q j w (by simpa using C) i,l⟩
 ·obtain⟨p,z,d,rfl⟩:=m j g a;obtain⟨y,i,l⟩:=K.all j z d o;exact⟨_,q _ y (D.2.2 j p o z d) i,Ads.2 ⟨l,by simpa using p⟩⟩
 ·obtain⟨_,z,d,rfl⟩:=m k g a;obtain⟨i,l,v,A⟩:=K.ql k z d;exact⟨i,l,Adq (Afs _ _) v,A⟩
 ·unfold LV;exact Adq (List.length_filterMap_le _ _) F
def dD:∀(c:Nat) (ks:List Int),ks.Nodup→(∀k∈ks,0≤k∧k<(c:Int))→ks.length≤c:=λc ks g j=>by
 have l:ks.length≤((List.range c).map λ(i:Nat)=>(i:Int)).length:=List.Nodup.length_le_of_subset g λk d=>by
  obtain⟨a,b⟩:=j k d;exact Adb.2 ⟨k.toNat,Adf.2 (by omega),by omega⟩
 simpa using l
def cY {N:Nat}(l:18446744073709551616<N) {b:AF}{s:AI}{vs:List (Int×DL)}{c:Nat}(u:VK N b s vs c) (m:c≤200) {keep:List Int}(n:keep.length≤1000) (cr:Int):∃ks,Ha N (some ⟨b,vs,cr⟩) keep=some (some ⟨b,LV vs ks,cr⟩)∧NW vs ks∧VK N b s (LV vs ks) c∧∀k,k∈ks↔k=0∨∃id∈keep,k∈UD vs c id:=by
 obtain⟨x,i,q,t⟩:=u.root;have h0:NW vs [0]:=⟨by simp,λk a=>by rw[Ac3.1 a,i];rfl,λk a g=>absurd (Ac3.1 a) g⟩
 obtain⟨ks,o,d,j⟩:=jP l u m n N 0 [0] (by omega) (Aci _) h0;refine⟨ks,?_,d,u.kept d ((j 0).2 (.inl (by simp))) (dD c ks d.1 λk a=>?_),λk=>by rw[j,List.drop_zero,Ac3]⟩
 ·unfold Ha;rw[Acb];simp only[i,Option.isSome_some,Acc];rw[show D9 N vs keep N [0] 0=_ from o,Acb]
 ·obtain⟨y,p⟩:=Aeo.1 (d.2.1 k a);exact u.key k y p
end Go.Proofs.YtabonambpbofgaaGreat
