import Derived.Test.YtabonambpbofgaaGreatKPureT1
import Derived.Test.YtabonambpbofgaaGreatKPureC2
namespace Go.Proofs.YtabonambpbofgaaGreat
set_option linter.all false
open Go.RowKit
def RX.at_:∀{l:List AX}{o:List (List Int)},RX l o→∀(j:Nat) (b:j<l.length),∃x,(R7 o (l.take j))[(l[j]).M.toNat]? =some x∧Wr (l[j]).V x
 |m::l,o,b,0,_=>b.1
 |m::l,o,b,j+1,a=>RX.at_ (l:=l) b.2 j (by simpa using a)
def QE (o:Nat) (a:List AX):Int:=(a.map λm=>m.V.getD o 0).sum
def Y6 {W o:Nat}{x y:List Int}(c:x.length=W) (d:y.length=W) (g:o<W):(Jt x y).getD o 0=x.getD o 0-y.getD o 0:=by
 have a:o<x.length:=by omega
 have b:o<y.length:=by omega
 unfold Jt;simp [Acv,Adu,a,b]
def Y8 {W o:Nat}{x y:List Int}(c:x.length=W) (d:y.length=W) (g:o<W):(Hw x y).getD o 0=x.getD o 0+y.getD o 0:=by
 have a:o<x.length:=by omega
 have b:o<y.length:=by omega
 unfold Hw;simp [Acv,Adu,a,b]
def Wa (o:Nat) (w:List (List Int)):Int:=(w.map λx=>x.getD o 0).sum
def Ts (o:Nat) (q:List AT):Int:=(q.map λl=>l.V.getD o 0).sum
def eT (o:Nat) (a b:List AT):Ts o (a++b)=Ts o a+Ts o b:=by unfold Ts;rw[Adb,Adh]
def eU {o:Nat}{w:List (List Int)}{k:Nat}{x y:List Int}(a:w[k]? =some x):Wa o (upd w (k:Int) y)=Wa o w-x.getD o 0+y.getD o 0:=by
 have b:=(Aby.1 a).1;have c:=(Aby.1 a).2;unfold Wa upd;rw[Acs,List.map_set,N1 (by simpa using b),List.getElem_map,c]
def PX.bd {W:Nat}{p:List Int}(b:PX W p):∀x∈p, -2305843009213693952≤x∧x≤2305843009213693952:=λx a=>by
 have:=b.mem a;omega
def ZV (m:AX):Bool:=decide (m.D<0)
def So (b:AF) (H:Int) (o:Nat):∀(l:List AX),Ts o (l.filterMap (Md b H))+QE o (l.filter ZV)=QE o l∧Hb (l.filterMap (Md b H))+Ls (l.filter ZV)=Ls l
 |[]=>⟨rfl,rfl⟩
 |m::l=>by
  obtain⟨i,j⟩:=So b H o l;have g:∀l,QE o (m::l)=m.V.getD o 0+QE o l:=λl=>by unfold QE;rw[Ab9,Acz]
  have a:∀l,Ls (m::l)=m.V.sum+Ls l:=λl=>by unfold Ls;rw[Ab9,Acz]
  by_cases k:m.D<0
  ·rw[List.filterMap_cons_none (by unfold Md;rw[Abm k]),List.filter_cons_of_pos (by unfold ZV;simpa using k),g,g,a,a];omega
  ·rw[List.filterMap_cons_some (b:=(⟨BQ (BQ (H+1)+QG b m.M.toNat m.Be),m.D,m.V⟩:AT)) (by unfold Md;rw[Abl k]),List.filter_cons_of_neg (by unfold ZV;simpa using k),g,a];have c:∀(x:AT) l,Ts o (x::l)=x.V.getD o 0+Ts o l:=λx l=>by unfold Ts;rw[Ab9,Acz]
   have d:∀(x:AT) l,Hb (x::l)=x.V.sum+Hb l:=λx l=>by unfold Hb;rw[Ab9,Acz]
   rw[c,d];simp only;omega
def X6 {W:Nat}{l:List AX}(b:∀m∈l,PX W m.V):0≤Ls l:=by
 unfold Ls;exact SK (f:=λm:AX=>m.V.sum) λm a=>(b m a).sum0
def W9 {N W:Nat}(d:8000000000000<N) (j:W≤1000):∀{l:List AX}{out:List Int},(∀m∈l,PX W m.V)→out.length=W→(∀x∈out,0≤x)→out.sum+Ls l≤2305843009213693952→(Tm N out l).length=W∧(∀x∈Tm N out l,0≤x)∧(Tm N out l).sum=out.sum+Ls (l.filter ZV)∧∀o,o<W→(Tm N out l).getD o 0=out.getD o 0+QE o (l.filter ZV)
 |[],out,_,b,h0,_=>⟨b,h0,by show out.sum=out.sum+0;omega,λo _=>by show out.getD o 0=out.getD o 0+0;omega⟩
 |m::l,out,c,b,h0,q=>by
  have a:=c m (.head _);have s:=X6 (l:=l) λm a=>c m (.tail _ a);have k:∀l,Ls (m::l)=m.V.sum+Ls l:=λl=>by unfold Ls;rw[Ab9,Acz]
  have g:∀o l,QE o (m::l)=m.V.getD o 0+QE o l:=λo l=>by unfold QE;rw[Ab9,Acz]
  rw[k] at q;have t:=a.sum0;rw[show Tm N out (m::l)=Tm N (if m.D<0 then (Hq N out m.V).getD [] else out) l from rfl];by_cases z:m.D<0
  ·rw[Abm z,X3 d (by omega) (by rw[a.len,b]) (λx n=>by have:=Jb h0 x n;have:=h0 x n;omega) a.bd,Ac7,List.filter_cons_of_pos (by unfold ZV;simpa using z)];have i:(Hw out m.V).sum=out.sum+m.V.sum:=L9 (b.trans a.len.symm);obtain⟨u,v,w,y⟩:=W9 d j (l:=l) (out:=Hw out m.V) (λm a=>c m (.tail _ a)) (QV b a.len) (SE h0 a.nn) (by omega);exact⟨u,v,by rw[w,i,k];omega,λo p=>by rw[y o p,Y8 b a.len p,g];omega⟩
  ·rw[Abl z,List.filter_cons_of_neg (by unfold ZV;simpa using z)];exact W9 d j (l:=l) (λm a=>c m (.tail _ a)) b h0 (by omega)
def WB {b:AF}{H:Int}{W o:Nat}(a:o<W):∀{l:List AX}{w:List (List Int)},Js b.A.length W w→RX l w→(∀m∈l,∃p,p<b.A.length∧zG b H W p m)→Wa o (R7 w l)+QE o l=Wa o w
 |[],w,_,_,_=>by show Wa o w+0=_;omega
 |m::l,w,t,y,u=>by
  obtain⟨⟨x,k,n⟩,c⟩:=y;obtain⟨p,B,q⟩:=u m (.head _);have d:=t.all x (Acy k);have i:=n.sub d;have j:w.getD m.M.toNat []=x:=by rw[Acv,k];rfl
  have g:∀o l,QE o (m::l)=m.V.getD o 0+QE o l:=λo l=>by unfold QE;rw[Ab9,Acz]
  have v:upd w m.M (Jt x m.V)=upd w ((m.M.toNat:Nat):Int) (Jt x m.V):=by rw[q.fr,Acs]
  rw[j] at c;have z:=WB a (l:=l) (w:=upd w m.M (Jt x m.V)) (t.upd _ i.1) c λm s=>u m (.tail _ s);rw[show R7 w (m::l)=R7 (upd w m.M (Jt (w.getD m.M.toNat []) m.V)) l from rfl,j,g];rw[v,eU k,Y6 d.len i.2.2.len a] at z;rw[v];omega
def wF (N:Nat) (l:BB):Prop:=(0≤l.W∧l.W≤64)∧0≤l.Ag∧l.Ag≤l.W
def uN.pos {N:Nat}{b:AF}{l:BB}(c:uN N b l):wF N l:=by
 by_cases h0:l.F=0
 ·have:=c.gate h0;exact⟨this.2.2.1,this.2.2.2.1⟩
 ·by_cases a:l.F=2
  ·have:=c.pump a;exact⟨⟨by omega,this.2.1.2⟩,this.2.2⟩
  ·have:=c.none_ h0 a;exact⟨by omega,by omega⟩
structure AfX (b:AF) (s:AI) (ts:List FM) (r:AI×List AX×List Int) (o3:List (List Int)) (l:List AX):Prop where
 own:Js b.A.length b.H.length r.1.G
 que:QX b.A.length b.H.length r.1.I
 tot:GH r.1.G+Hb r.1.I+Ls (l.filter ZV)=GH o3+Hb (ME s.B s.I)
 ol:r.1.O.length=b.H.length
 o0:∀x∈r.1.O,0≤x
 os:r.1.O.sum=s.O.sum+Ls (l.filter ZV)
 oc:∀o,o<b.H.length→r.1.O.getD o 0=s.O.getD o 0+QE o (l.filter ZV)
 col:∀o,o<b.H.length→Wa o r.1.G+Ts o r.1.I+QE o (l.filter ZV)=Wa o o3+Ts o (ME s.B s.I)
 ql:r.1.I.length≤s.I.length+(64+b.A.length*(ts.length+b.C.length+2))
 l0:0≤Ls (l.filter ZV)
def Ye {N:Nat}(Y:18446744073709551616<N) {b:AF}(G:IG b) {s:AI}(c:Abb b s) {u:List FM}{J:List (List Int)}{r:AI×List AX×List Int}{K:List Int}{v:List (List Int)}{l:List AX}(h:Yg N b s u J r K v l):AfX b s u r v l:=by
 have Z:=G.own;have g:∀m∈l,PX b.H.length m.V:=λm i=>by obtain⟨p,_,j⟩:=h.lv.mv m i;exact j.px
 have a:QX b.A.length b.H.length (ME s.B s.I):=λl M=>c.x.que l (Ac2.1 M).1;have d:QX b.A.length b.H.length (l.filterMap (Md b s.B)):=λx k=>by
  obtain⟨m,i,e⟩:=Aes.1 k;obtain⟨p,_,j⟩:=h.lv.mv m i;unfold Md at e;split at e
  ·cases e
  ·cases e;have:=j.to;exact⟨j.px,by show 0≤m.D;omega,by show m.D<_;omega⟩
 have n:=(IR a 0).2;rw[Adg,show Hb ([]:List AT)=0 from rfl] at n;have q:=(IR c.x.que 0).2;rw[Adg,show Hb ([]:List AT)=0 from rfl] at q;have Q:=c.x.own.sum0;have U:=h.lv.ox.sum0;have ht:=h.lv.tot;have h3:=h.os3;have h4:=c.outs;have h5:=c.x.inns;obtain⟨w,y,z,C⟩:=W9 (N:=N) (by omega) (by omega) g c.x.out c.out0 (by omega);rw[←h.lv.out_] at w y z C;have t:=h.ml2;rw[h.lv.ms_,Acg] at t;refine⟨h.lv.ox,?_,?_,w,y,z,C,λo W=>?_,?_,X6 λm i=>g m (Ac2.1 i).1⟩
 ·rw[h.que];exact λx k=>(Acb.1 k).elim (a x) (d x)
 ·have:=(So b s.B 0 l).2;rw[h.que,V9];omega
 ·have X:=(So b s.B o l).1;have F:=WB W h.ox3 h.lv.val h.lv.mv;rw[←h.lv.own] at F;rw[h.que,eT];omega
 ·rw[h.que,Acg];have X:(ME s.B s.I).length≤s.I.length:=Afd _ _;have F:=List.length_filterMap_le (Md b s.B) l;omega
def RU {N:Nat}(D:18446744073709551616<N) {b:AF}(Z:Gx N b=some true):KA b∧TX b∧HZ N b=some true∧FJ N b=some true:=by
 obtain⟨v,e,k⟩:=V4 D b;rw[Z] at e;cases e;have k:=k rfl;unfold Gx at Z;obtain⟨Y,_,Z⟩:=bd Z;obtain⟨H,I,Z⟩:=bd Z;obtain⟨J,i,Z⟩:=bd Z;obtain⟨K,j,Z⟩:=bd Z;obtain⟨M,m,Z⟩:=bd Z;obtain⟨Q,n,Z⟩:=bd Z;obtain⟨U,o,Z⟩:=bd Z;obtain⟨V,p,Z⟩:=bd Z;obtain⟨W,q,Z⟩:=bd Z;have a:∀{c:Bool} {x:Option Bool} {d:Bool},cond c (x.bind λy=>some y) (some false)=some d→d=true→c=true∧x=some true:=by
  intro c x d s hd;subst hd;cases c
  ·cases s
  ·cases x with
   |none=>cases s
   |some y=>exact⟨rfl,s⟩
 have t:=Abo Z;have u:=a q t;have w:=a p u.1;have z:=a o w.1;have A:=a n z.1;have B:=a m A.1;have g:=a j B.1;refine⟨k,λl X=>?_,(a i g.1).2,g.2⟩;have C:=Za D k.head k.links g.2 l X;by_cases h0:l.F=0
 ·have:=C.gate h0;exact⟨this.2.2.1,this.2.2.2.1⟩
 ·by_cases G:l.F=2
  ·have:=C.pump G;exact⟨⟨by omega,this.2.1.2⟩,this.2.2⟩
  ·have:=C.none_ h0 G;exact⟨by omega,by omega⟩
def kA {b:AF}(c:KA b) {p:Nat}(d:p<b.A.length) (a:Int):0≤QG b p a∧QG b p a≤240:=by
 unfold QG;split
 ·rename_i g;rw[TB (show a.toNat<b.C.length by omega)];exact(c.links _ (Ab2 _)).delay
 ·split
  ·exact⟨by decide,by decide⟩
  ·have e:b.A.getD p default=b.A[p]:=by simp [Acv,d]
   rw[e];exact(c.places _ (Ab2 _)).delay
def Wz {N:Nat}(C:18446744073709551616<N) {b:AF}(i:KA b) (J:TX b) {s:AI}(c:Ws b s) (hH:s.B<16777216) {in_:B3}{K:List FM}{Q:List (List Int)}{r:AI×List AX×List Int}(U:He N b s in_=some r) {u:List Int}{D:List (List Int)}{l:List AX}(h:Yg N b s K Q r u D l) (k1:GH D+Hb (ME s.B s.I)=GH s.G+Hb s.I+u.sum) (k4:s.L.sum+u.sum≤1152921504606846976):Ws b r.1∧r.1.B=s.B+1:=by
 have j:=i.head.own1;have a:=Ye C i.head c.rg h;obtain⟨F,v⟩:=iN C i.head i.places J c U;have z:=Ka h.n0;have hh:=c.rg.hour;have o:r.1.B=s.B+1:=by rw[h.hour,ER (by omega) (by omega)]
 have V:r.1.L.sum=s.L.sum+u.sum:=by rw[h.inn,L9 (by rw[c.rg.x.inn,SZ]),Ub j]
 have W:=a.tot;have h3:=h.os3;have X:=a.l0;have Y:=a.os;have Z:=c.rg.outs;have aa:=Ka c.rg.x.inn0;refine⟨⟨⟨⟨a.own,a.que,by omega,F.1,v.1,by rw[h.inn];exact QV c.rg.x.inn (SZ _ _),?_,by omega,a.ol⟩,by omega,λk l g w y=>⟨(v.2 k l g w y).pos,(v.2 k l g w y).tgt⟩,λq d=>?_,a.o0,by omega⟩,F.2,λk l g w y=>(v.2 k l g w y).opn⟩,o⟩
 ·rw[h.inn];refine SE c.rg.x.inn0 (mA j z ?_).nn;have ab:=c.rg.x.own.sum0;have A:=(IR c.rg.x.que 0).2;rw[Adg,show Hb ([]:List AT)=0 from rfl] at A;omega
 ·rw[o];rw[h.que] at d;rcases Acb.1 d with d|d
  ·obtain⟨q1,H⟩:=Ac2.1 d;have H:=Ac9 H;exact⟨by omega,(c.rg.at_ q q1).2⟩
  ·obtain⟨m,hm,e⟩:=Aes.1 d;obtain⟨p,hp,t⟩:=h.lv.mv m hm;unfold Md at e;split at e
   ·cases e
   ·cases e;have hd:=kA i hp m.Be;have hf:=t.fr;rw[show p=m.M.toNat by omega] at hd;refine⟨?_,t.pos⟩;show s.B+1≤BQ (BQ (s.B+1)+QG b m.M.toNat m.Be)
    rw[ER (n:=s.B+1) (by omega) (by omega),ER (by omega) (by omega)];omega
structure Zp (i:B3):Prop where
 rain:i.T.length≤20
 faults:i.Ab.length≤20
 cmds:i.Ac.length≤20
 takes:i.U.length≤20
 swaps:i.Ae.length≤20
structure Zs (b:AF):Prop where
 r:KA b
 pos:TX b
 p6:b.A.length≤6
 l6:b.C.length≤6
structure yP (N:Nat) (b:AF) (s:AI) (i:B3) (y:AI×List AX×List Int):Prop where
 er:He N b s i=some y
 rg0:Ws b s
 rg:Ws b y.1
 hour:y.1.B=s.B+1
 h0:s.B<16777216
 ml:y.2.1.length≤232
 ql:y.1.I.length≤s.I.length+232
 pl:y.2.2.length=b.A.length
 ex:∃o1 ns o3 l,(∀gs:List A4,Fu N (⟨b,i,({ s with P:=gs}:AI),([]:List AX),(List.replicate ((b.A.length:Int)).toNat (0:Int)),([]:List AT)⟩:AM)=some o1)∧Js b.A.length b.H.length o1∧o1.map List.sum=s.G.map List.sum∧Yg N b s i.U o1 y ns o3 l∧GH o3+Hb (ME s.B s.I)=GH s.G+Hb s.I+ns.sum∧s.L.sum+ns.sum≤1152921504606846976
def cO {N:Nat}(g:18446744073709551616<N) {b:AF}(c:Zs b) {s:AI}(d:Ws b s) (q:s.B<16777216) (V:s.I.length≤4000000000000) {i:B3}(t:Zp i):∃y,yP N b s i y:=by
 obtain⟨X,Y,Z,h4,h5⟩:=t;have j:=c.p6;have u:=c.l6;have v:=c.r.head.own;obtain⟨w,k,m,z,D⟩:=Vs (N:=N) (by omega) (b:=b) (s:=s) (in_:=i) (W:=b.H.length) (by omega) (by omega) d.rg.x.own;obtain⟨r,F,G,l,n,h,o,_,_,p⟩:=Xu g c.r.head c.r.links c.r.places d.rg.x (by omega) (in_:=i) (by omega) (by omega) (by omega) k m z;obtain⟨J,K⟩:=Wz g c.r c.pos d (by omega) n h o p;have a:=Ye g c.r.head d.rg h;have hm:b.A.length*(i.U.length+b.C.length+2)≤6*28:=Aej j (by omega);have M:=a.ql;have Q:=h.ml2;exact⟨r,n,d,J,K,q,by omega,by omega,by rw[h.pk,Aep,h.ox3.len],w,F,G,l,k,m,D,h,o,p⟩
inductive Zr (N:Nat) (b:AF):AI→List B3→List AI→List AX→List (List Int)→AI→Prop
 |nil (s:AI):Zr N b s [] [] [] [] s
 |cons {s:AI} {i:B3} {y:AI×List AX×List Int} {l:List B3} {ss:List AI} {ms:List AX} {ps:List (List Int)} {t:AI}:yP N b s i y→Zr N b y.1 l ss ms ps t→Zr N b s (i::l) (y.1::ss) (y.2.1++ms) (y.2.2::ps) t
def Zr.app {N:Nat}{b:AF}{s t u:AI}{l i:List B3}{j a:List AI}{m d:List AX}{n g:List (List Int)}(q:Zr N b s l j m n t) (k:Zr N b t i a d g u):Zr N b s (l++i) (j++a) (m++d) (n++g) u:=by
 induction q with
 |nil s=>exact k
 |cons o c p=>rw[Acu];exact .cons o (p k)
def Zr.len {N:Nat}{b:AF}{s t:AI}{l:List B3}{a:List AI}{d:List AX}{g:List (List Int)}(k:Zr N b s l a d g t):a.length=l.length∧g.length=l.length∧d.length≤232*l.length:=by
 induction k with
 |nil s=>exact⟨rfl,rfl,Abn _⟩
 |cons o c i=>
  have j:=o.ml;simp only[Ady,Acg];omega
def Aa2 {N:Nat}{b:AF}{s t:AI}{l:List B3}{a:List AI}{g:List AX}{i:List (List Int)}(w:Zr N b s l a g i t):∀(k:Nat) u,a[k]? =some u→Ws b u∧u.B=s.B+k+1∧u.I.length≤s.I.length+232*l.length:=by
 induction w with
 |nil s=>intro k u w;cases w
 |cons o c j=>
  intro k u d;have n:=o.hour;have p:=o.ql;rw[Ady];cases k with
  |zero=>cases d;exact⟨o.rg,by omega,by omega⟩
  |succ k=>obtain⟨m,q,v⟩:=j k u d;exact⟨m,by omega,by omega⟩
def Zr.pk {N:Nat}{b:AF}{s t:AI}{l:List B3}{g:List AI}{i:List AX}{d:List (List Int)}(k:Zr N b s l g i d t):∀p∈d,p.length=b.A.length:=by
 induction k with
 |nil s=>intro p a;cases a
 |cons o c j=>
  intro p a;rcases Abr.1 a with rfl|a
  ·exact o.pl
  ·exact j p a
def O3 {N:Nat}{l:List Int}(a:l.length≤4000000000000):BK N l=some l:=by
 unfold BK;rw[GZ (by simp;omega)];rfl
def kJ {N:Nat}{l:List (List Int)}(a:l.length≤4000000000000):GX N l=some l:=by
 unfold GX;rw[GZ (by simp;omega)];rfl
def kG {N:Nat}{l:List AT}(a:l.length≤4000000000000):C7 N l=some l:=by
 unfold C7;rw[GZ (by simp;omega)];rfl
def kK {N:Nat}{l:List A4}(a:l.length≤4000000000000):BY N l=some l:=by
 unfold BY;rw[GZ (by simp;omega)];rfl
def rI {N:Nat}{l:List ByteArray}(a:l.length≤1000):FQ N l=some l:=by
 unfold FQ;rw[GZ (by simp;omega)];rfl
def eV {N:Nat}{l:List Cp}(a:l.length≤1000):Cq N l=some l:=by
 unfold Cq;rw[GZ (by simp;omega)];rfl
def Qw {N:Nat}{l:List By}(a:l.length≤1000):BU N l=some l:=by
 unfold BU;rw[GZ (by simp;omega)];rfl
def kL {N:Nat}{l:List Le}(a:l.length≤1000):C9 N l=some l:=by
 unfold C9;rw[GZ (by simp;omega)];rfl
def kH {N:Nat}{l:List BB}(a:l.length≤1000):C8 N l=some l:=by
 unfold C8;rw[GZ (by simp;omega)];rfl
def kC {N:Nat}{l:List Kn}(a:l.length≤1000):C5 N l=some l:=by
 unfold C5;rw[GZ (by simp;omega)];rfl
def eW {N:Nat}{l:List JK}(a:l.length≤1000):Cr N l=some l:=by
 unfold Cr;rw[GZ (by simp;omega)];rfl
def kF {N:Nat}{l:List Ko}(a:l.length≤1000):C6 N l=some l:=by
 unfold C6;rw[GZ (by simp;omega)];rfl
def kD {N:Nat}{l:List G0}(a:l.length≤1000):CS N l=some l:=by
 unfold CS;rw[GZ (by simp;omega)];rfl
def MA {α}{l:List α}{k:Nat}(a:k<l.length):upd l (k:Int) l[k]=l:=by
 unfold upd;simp
structure gR (b:AF):Prop where
 rm:b.Aj.length≤3
 pl:∀p∈b.A,p.An.length≤16∧p.T.length≤64
 li:∀l∈b.C,l.As.length≤32∧l.Ad.Aw.length≤32∧l.Ad.Ax.length≤32
def V7 {N:Nat}(b:AF) (j:b.J≤64) (p:Cp) (a:Int) (kj:Int→Option Bool):∀(n:Nat) (s:Int) (k:Nat),k≤p.T.length→k<4611686018427387904→(k:Int)≤s+1→s<64→Cn N b p a kj n s (k:Int)=some true→p.T.length≤64
 |0,_,_,_,_,_,_,q=>by cases q
 |n+1,s,k,l,i,m,o,q=>by
  simp only[Cn] at q;rcases Ab4 k p.T.length with g|g
  ·rw[FD g,Abj,BF g,Abi] at q;obtain⟨c,d,q⟩:=bd q;cases c with
   |true=>cases q
   |false=>
    cases hd:(decide ((p.T[k]).Bf≤s)||decide (b.J≤(p.T[k]).Bf)) with
    |true=>rw[hd] at d;cases d
    |false=>
     simp only[Acd,Ab7] at hd;rw[Abk,A9 i] at q;exact V7 b j p a kj n _ (k+1) g (by omega) (by omega) (by omega) q
  ·omega
def Rj {N:Nat}{b:AF}(j:IG b):∀(n:Nat) (s:Int) (k:Nat),0≤s→s+((b.A.length:Int)-k)*18014398509481984≤2305843009213693952→k≤b.A.length→B7 N b (CT N) n s (k:Int)=some true→∀p∈b.A.drop k,p.An.length≤16∧p.T.length≤64
 |0,s,k,h0,B,C,U=>by cases U
 |n+1,s,k,h0,B,C,U=>by
  have M:=j.own;have D:=j.pl;have F:=j.cells;simp only[B7] at U;rcases Ab4 k b.A.length with d|d
  ·rw[FD d,Abj,BF d,Abi] at U;obtain⟨_,_,U⟩:=bd U;obtain⟨_,_,U⟩:=bd U;obtain⟨_,_,U⟩:=bd U;obtain⟨_,_,U⟩:=bd U;obtain⟨_,_,U⟩:=bd U;obtain⟨m,_,U⟩:=bd U;obtain⟨o,g,U⟩:=bd U;obtain⟨q,t,u⟩:=bd U;cases q with
   |true=>cases u
   |false=>
    rw[Abk] at u;cases o with
    |true=>cases t
    |false=>
     cases a:(m||decide (((b.A[k]).An.length:Int)≠(b.H.length:Int))) with
     |true=>rw[a] at g;cases g
     |false=>
      simp only[Acd,Ab7,ne_eq,Decidable.not_not] at a;have Q:(b.A[k]).An.length=b.H.length:=by omega
      obtain⟨v,w⟩:=Tz (N:=N) b.A[k] _ (by omega) N s 0 h0 (by omega) (Abn _) u;rw[List.drop_zero] at v w;have G:=V7 b (by omega) b.A[k] _ _ N (-1) 0 (Abn _) (by omega) (by omega) (by omega) v;have y:=V8 b b.A[k] _ _ N _ _ v;have I:=Ka (l:=(b.A[k]).An) λx z=>(w x z).1;have J:=Kx (l:=(b.A[k]).An) (c:=1125899906842624) λx z=>(w x z).2;unfold DC at y;rw[A9 (by omega)] at y;have K:=Rj j n _ (k+1) (by omega) (by omega) (by omega) y;rw[Ad0 d];intro p i;rcases Abr.1 i with rfl|i
      ·exact⟨by omega,G⟩
      ·exact K p i
  ·rw[Adq d];intro p i;cases i
def TC {N:Nat}{b:AF}(s:IG b) (d:∀l∈b.C,KN b l):∀(n k:Nat),k≤b.C.length→Cd N b (D2 N) n (k:Int)=some true→∀l∈b.C.drop k,l.As.length≤32∧l.Ad.Aw.length≤32∧l.Ad.Ax.length≤32
 |0,k,t,B=>by cases B
 |n+1,k,t,B=>by
  have u:=s.li;simp only[Cd] at B;rcases Ab4 k b.C.length with c|c
  ·rw[FD c,Abj,BF c,Abi] at B;obtain⟨_,_,B⟩:=bd B;obtain⟨_,_,B⟩:=bd B;obtain⟨_,_,B⟩:=bd B;obtain⟨_,_,B⟩:=bd B;obtain⟨j,_,B⟩:=bd B;obtain⟨m,a,o⟩:=bd B;cases m with
   |true=>cases o
   |false=>
    rw[Abk,A9 (by omega)] at o;have v:=TC s d n (k+1) c o;rw[Ad0 c];intro l q;rcases Abr.1 q with rfl|q
    ·by_cases g:(b.C[k]).F=0
     ·obtain⟨w,x,z,_⟩:=(d _ (Ab2 c)).gate g;exact⟨w.2.1,x.2.1,z.2.1⟩
     ·cases j with
      |true=>cases a
      |false=>
       rw[Abk] at a;obtain⟨y,i,a⟩:=bd a;unfold Fe at i;rw[Abs g,Bool.not_false,Bool.true_and] at i;cases hd:(((decide (0<((b.C[k]).As.length:Int))||decide (0<((b.C[k]).Ad.Aw.length:Int)))||decide (0<((b.C[k]).Ad.Ax.length:Int)))||decide ((b.C[k]).Bb≠0)) with
       |true=>rw[hd,Abj] at i;cases i;cases a
       |false=>
        simp only[Acd,Ab7] at hd;omega
    ·exact v l q
  ·rw[Adq c];intro p A;cases A
def jC {N:Nat}(j:18446744073709551616<N) {b:AF}(o:Gx N b=some true):gR b:=by
 obtain⟨k,_,g,i⟩:=RU j o;have m:=k.head.own;have n:=k.head.pl;refine⟨?_,?_,?_⟩
 ·unfold Gx at o;obtain⟨l,a,o⟩:=bd o;cases l with
  |false=>
   simp only[Abk,Abi] at o;cases o
  |true=>
   unfold IB at a;obtain⟨_,_,a⟩:=bd a;obtain⟨_,_,a⟩:=bd a;obtain⟨_,_,a⟩:=bd a;obtain⟨d,c,a⟩:=bd a;cases d with
   |true=>cases a
   |false=>
    by_cases e:(b.Aj.length:Int)≠3
    ·rw[Ab3 e,Bool.or_true,Abj] at c;cases c
    ·omega
 ·unfold HZ at g;exact Rj k.head N 0 0 (by omega) (by omega) (Abn _) g
 ·unfold FJ at i;exact TC k.head k.links N 0 (Abn _) i
def U4 {N:Nat}(m:8000000000000<N) {s:AI}(o:s.G.length≤1000) (b:∀x∈s.G,x.length≤1000) (p:s.N.length≤1000) (c:s.I.length≤4000000000000) (d:∀l∈s.I,l.V.length≤1000) (q:s.P.length≤1000) (t:s.L.length≤1000) (u:s.O.length≤1000):Iq N s=some s:=by
 unfold Iq;rw[kJ (by omega),Abi];have g:=Lz s.G.length (λn i=>ED N s.G (Ej N s) n i s.G) (Ej N s s.G) (λn k a=>by
  simp only[ED];rw[Fj a];rfl) (λn k a=>by
  simp only[ED];rw[FD a,Abj,BF a];simp only[Abi];rw[O3 (by have:=b _ (Ab2 a);omega),Abi,MA a,A9 (by omega)]) N 0 (by omega) (Abn _)
 rw[show ED N s.G (Ej N s) N 0 s.G=_ from g];unfold Ej;rw[kG c,Abi];have j:=Lz s.I.length (λn i=>EC N s.I (Ei N s s.G) n i s.I) (Ei N s s.G s.I) (λn k a=>by
  simp only[EC];rw[Fj a];rfl) (λn k a=>by
  simp only[EC];rw[FD a,Abj,BF a];simp only[Abi];rw[O3 (by have:=d _ (Ab2 a);omega),Abi,MA a,A9 (by omega)]) N 0 (by omega) (Abn _)
 rw[show EC N s.I (Ei N s s.G) N 0 s.I=_ from j];unfold Ei;rw[O3 (by omega),Abi,kK (by omega),Abi,O3 (by omega),Abi,O3 (by omega),Abi]
def U6 {N:Nat}(p:8000000000000<N) {b:AF}(c:KA b) (d:gR b):Is N b=some b:=by
 have q:=c.head.own;have s:=c.head.pl;have t:=c.head.li;have u:=c.head.to;have v:=c.head.ga;have w:=c.head.ro;have x:=c.head.sh;have y:=d.rm;unfold Is;rw[rI (by omega),Abi,eV (by omega),Abi];have g:=Lz b.A.length (λn i=>EF N b.A (El N b b.H) n i b.A) (El N b b.H b.A) (λn k a=>by
  simp only[EF];rw[Fj a];rfl) (λn k a=>by
  simp only[EF];have j:=(c.places _ (Ab2 a)).lev.2.1;obtain⟨l,m⟩:=d.pl _ (Ab2 a);rw[FD a,Abj,BF a];simp only[Abi];rw[Qw (by omega)];simp only[Abi];rw[MA a,BF a];simp only[Abi];rw[O3 (by omega)];simp only[Abi];rw[MA a,BF a];simp only[Abi];rw[kL (by omega)];simp only[Abi];rw[MA a,A9 (by omega)]) N 0 (by omega) (Abn _)
 rw[show EF N b.A (El N b b.H) N 0 b.A=_ from g];unfold El;rw[kH (by omega),Abi];have o:=Lz b.C.length (λn i=>EE N b.C (Ek N b b.H b.A) n i b.C) (Ek N b b.H b.A b.C) (λn k a=>by
  simp only[EE];rw[Fj a];rfl) (λn k a=>by
  simp only[EE];obtain⟨j,l,m⟩:=d.li _ (Ab2 a);rw[FD a,Abj,BF a];simp only[Abi];rw[Qw (by omega)];simp only[Abi];rw[MA a,BF a];simp only[Abi];rw[Qw (by omega)];simp only[Abi];rw[MA a,BF a];simp only[Abi];rw[Qw (by omega)];simp only[Abi];rw[MA a,A9 (by omega)]) N 0 (by omega) (Abn _)
 rw[show EE N b.C (Ek N b b.H b.A) N 0 b.C=_ from o];unfold Ek;rw[kC (by omega),Abi,eW (by omega),Abi,kF (by omega),Abi,kD (by omega),Abi,O3 (by omega),Abi]
def U5 {N:Nat}{i:B3}(j:Zp i):Ir N i=some i:=by
 obtain⟨a,b,c,d,g⟩:=j;unfold Ir;rw[O3 (by omega),Abi];unfold DZ Dy Di Dj;rw[GZ (by simp;omega),Abi,GZ (by simp;omega),Abi,GZ (by simp;omega),Abi,GZ (by simp;omega),Abi];rfl
def YQ {α}{N:Nat}(a b:List α) (s:a.length=b.length) (u:a.length<N) (f:Nat→Int→Option Bool) (q:α→α→Bool) (l:∀x y,q x y=true↔x=y) (c:∀n (k:Nat),a.length≤k→f (n+1) (k:Int)=some true) (d:∀n (k:Nat) (m:k<a.length) (g:k<b.length),f (n+1) (k:Int)=cond (q a[k] b[k]) (f n ((k+1:Nat):Int)) (some false)):∃v,f N 0=some v∧(v=true↔a=b):=by
 rcases WH a.length f (some true) (λk=>match a[k]?,b[k]? with|some x,some y=>q x y|_,_=>true) c (λn k o=>by
  have g:k<b.length:=by omega
  rw[d n k o g,Abw o,Abw g]) N 0 (by omega) (Abn _) with ⟨m,g⟩|⟨⟨i,_,h3,j⟩,h5⟩
 ·refine⟨true,g,λ_=>List.ext_getElem s λi p t=>?_,λ_=>rfl⟩;have:=m i (Abn _) p;rw[Abw p,Abw t] at this;exact(l _ _).1 this
 ·refine⟨false,h5,λw=>(by cases w),λw=>?_⟩;subst w;rw[Abw h3] at j;have j:q a[i] a[i]=false:=j;rw[(l _ _).2 rfl] at j;cases j
def wQ {N:Nat}(l:8000000000000<N) (a b:List Int) (m:a.length≤1000):∃v,CQ N a b=some v∧(v=true↔a=b):=by
 unfold CQ;by_cases e:a.length=b.length
 ·rw[Abs (by omega),Abk];exact YQ a b e (by omega) (λn i=>D3 N a b (GW N) n i) (λx y=>decide (x=y)) (λx y=>decide_eq_true_iff) (λn k g=>by
   simp only[D3];rw[Fj g];rfl) (λn k d j=>by
   simp only[D3];rw[FD d,Abj,BF d,BF j];simp only[Abi];rw[A9 (by omega)];by_cases c:a[k]=b[k]
   ·rw[Abs (by simpa using c),Ab3 c];rfl
   ·rw[Ab3 (by simpa using c),Abs c];rfl)
 ·rw[Ab3 (by omega),Abj];exact⟨false,rfl,λm=>(by cases m),λm=>absurd (Abp List.length m) e⟩
def jY {α}{N:Nat}(m:8000000000000<N) (vv:α→List Value) (g:∀x y,Qt (vv x) (vv y)=true↔x=y) (a b:List α) (o:a.length≤1000) (f:List α→List α→Option Bool→Nat→Int→Option Bool) (c:∀a b kj n i,f a b kj (n+1) i=cond (decide (i<(a.length:Int))) ((ix a i).bind λx=>(ix b i).bind λy=>cond (!(Qt (vv x) (vv y))) (some false) (f a b kj n (BQ (i+1)))) kj):∃v,cond (decide ((a.length:Int)≠(b.length:Int))) (some false) (f a b (some true) N 0)=some v∧(v=true↔a=b):=by
 by_cases e:a.length=b.length
 ·rw[Abs (by omega),Abk];exact YQ a b e (by omega) (λn i=>f a b (some true) n i) (λx y=>Qt (vv x) (vv y)) g (λn k j=>by
   simp only[c];rw[Fj j];rfl) (λn k d l=>by
   simp only[c];rw[FD d,Abj,BF d,BF l];simp only[Abi];rw[A9 (by omega)];cases Qt (vv a[k]) (vv b[k])<;>rfl)
 ·rw[Ab3 (by omega),Abj];exact⟨false,rfl,λo=>(by cases o),λo=>absurd (Abp List.length o) e⟩
def Zh (x y:G1):Qt x.v y.v=true↔x=y:=by cases x;cases y;simp [Qt,Vc,G1.v]
def jZ (x y:LA):Qt x.v y.v=true↔x=y:=by cases x;cases y;simp [Qt,Vc,LA.v]
def dZ (x y:FM):Qt x.v y.v=true↔x=y:=by cases x;cases y;simp [Qt,Vc,FM.v]
def eF (x y:Iw):Qt x.v y.v=true↔x=y:=by cases x;cases y;simp [Qt,Vc,Iw.v]
def Q3 {p q:Prop}{x:Option Bool}{b:Bool}(d:∃v,x=some v∧(v=true↔q)) (a:b=true↔p):∃v,cond b (x.bind λy=>some y) (some false)=some v∧(v=true↔p∧q):=by
 obtain⟨v,rfl,c⟩:=d;cases b with
 |false=>exact⟨false,rfl,λd=>(by cases d),λd=>absurd (a.2 d.1) (by simp)⟩
 |true=>exact⟨v,rfl,λd=>⟨a.1 rfl,c.1 d⟩,λd=>c.2 d.2⟩
def Uh {N:Nat}(g:8000000000000<N) (x y:B3) (W:Zp x):∃v,Ip N x y=some v∧(v=true↔x=y):=by
 obtain⟨G,H,I,J,K⟩:=W;have j:∃v,JS N (⟨x.T,y.T⟩:DQ)=some v∧(v=true↔x.T=y.T):=by
  obtain⟨v,e,k⟩:=wQ g x.T y.T (by omega);exact⟨v,by unfold JS;simp only[e,Abi],k⟩
 have l:∃v,Ew N (⟨x.Ab,y.Ab⟩:J0)=some v∧(v=true↔x.Ab=y.Ab):=by
  obtain⟨v,e,k⟩:=jY g G1.v Zh x.Ab y.Ab (by omega) (λa b kj n i=>CF N a b kj n i) (λ_ _ _ _ _=>rfl);exact⟨v,by unfold Ew DY CX;simp only[e,Abi],k⟩
 have m:∃v,FU N (⟨x.Ac,y.Ac⟩:NF)=some v∧(v=true↔x.Ac=y.Ac):=by
  obtain⟨v,e,k⟩:=jY g LA.v jZ x.Ac y.Ac (by omega) (λa b kj n i=>CL N a b kj n i) (λ_ _ _ _ _=>rfl);exact⟨v,by unfold FU Dw Cy;simp only[e,Abi],k⟩
 have o:∃v,E7 N (⟨x.U,y.U⟩:K8)=some v∧(v=true↔x.U=y.U):=by
  obtain⟨v,e,k⟩:=jY g FM.v dZ x.U y.U (by omega) (λa b kj n i=>CI N a b kj n i) (λ_ _ _ _ _=>rfl);exact⟨v,by unfold E7 Dg Ch;simp only[e,Abi],k⟩
 have p:∃v,E8 N (⟨x.Ae,y.Ae⟩:K9)=some v∧(v=true↔x.Ae=y.Ae):=by
  obtain⟨v,e,k⟩:=jY g Iw.v eF x.Ae y.Ae (by omega) (λa b kj n i=>CJ N a b kj n i) (λ_ _ _ _ _=>rfl);exact⟨v,by unfold E8 Dh Ci;simp only[e,Abi],k⟩
 unfold Ip;obtain⟨v1,q,s⟩:=j;obtain⟨M,t,u⟩:=Q3 l s;obtain⟨Q,w,z⟩:=Q3 m u;obtain⟨V,A,B⟩:=Q3 o z;obtain⟨C,D,F⟩:=Q3 p B;rw[q,Abi,t,Abi,w,Abi,A,Abi,D,Abi];refine⟨C,rfl,F.trans ?_⟩;constructor
 ·rintro⟨⟨⟨⟨a,b⟩,c⟩,d⟩,e⟩;cases x;cases y;simp_all
 ·rintro rfl;exact⟨⟨⟨⟨rfl,rfl⟩,rfl⟩,rfl⟩,rfl⟩
def bA {vs a:List (Int×Dv)}{k:Int}:Cc (vs++a) k=(Cc vs k).or (Cc a k):=by
 unfold Cc;rw[Aeu];cases vs.find? λe=>decide (e.1=k)<;>rfl
def Sd {k:Int}:Cc [] k=none:=rfl
def Mo {e:Int×Dv}{vs:List (Int×Dv)}{k:Int}:Cc (e::vs) k=if e.1=k then some e.2 else Cc vs k:=by
 unfold Cc;rw[Aeb];by_cases a:e.1=k
 ·rw[Ab3 a,Abm a];rfl
 ·rw[Abs a,Abl a]
def Sc {p k:Int}{y:Dv}:∀{vs:List (Int×Dv)},Cc (NK vs p y) k=if k=p then (Cc vs p).map (λ_=>y) else Cc vs k
 |[]=>by simp [NK,Sd]
 |e::vs=>by
  have b:=Sc (p:=p) (k:=k) (y:=y) (vs:=vs);unfold NK at b ⊢;rw[Ab9,Mo,Mo,Mo,b];by_cases c:e.1=p
  ·subst c
   by_cases a:k=e.1
   ·subst a;simp
   ·simp [a,Ne.symm a]
  ·by_cases a:k=p
   ·subst a;simp [c]
   ·simp [c,a]
def Se {vs:List (Int×Dv)}{p c k:Int}{x y z:Dv}(b:Cc vs p=some x) (i:Cc vs c=none):Cc (NK vs p y++[(c,z)]) k=if k=c then some z else if k=p then some y else Cc vs k:=by
 rw[bA,Sc,Mo,Sd,b];have d:p≠c:=λe=>by rw[e,i] at b;cases b
 by_cases g:k=c
 ·subst g;rw[Abm rfl,Abl (Ne.symm d),i,Abm rfl];rfl
 ·rw[Abl g,Abl (Ne.symm g)];by_cases a:k=p
  ·rw[Abm a,Abm a];rfl
  ·rw[Abl a,Abl a];cases Cc vs k<;>rfl
def ZG (ks:List Int) (x:Dv):Dv:={ x with kids:=x.kids.filter λk=>ks.contains k}
def RC {vs:List (Int×Dv)}{ks:List Int}{k:Int}:Cc (Lm vs ks) k=if k∈ks then (Cc vs k).map (ZG ks) else none:=by
 unfold Lm;suffices g:∀c:List Int,Cc (c.filterMap λi=>(Cc vs i).map λx=>(i,{ x with kids:=x.kids.filter λk=>ks.contains k})) k=if k∈c then (Cc vs k).map (ZG ks) else none from g ks
 intro c
 induction c with
 |nil=>rfl
 |cons i c b=>
  rw[Ae5];cases d:Cc vs i with
  |none=>
   simp only[Option.map_none];rw[b];by_cases a:k=i
   ·subst a;rw[d];simp
   ·simp [a]
  |some x=>
   simp only[Adl];rw[Mo,b];by_cases a:i=k
   ·subst a;rw[Abm rfl,d];simp [ZG]
   ·rw[Abl a];simp [Ne.symm a]
structure VK (N:Nat) (b:AF) (s:AI) (vs:List (Int×Dv)) (c:Nat):Prop where
 key:∀k x,Cc vs k=some x→0≤k∧k<(c:Int)
 root:∃x,Cc vs 0=some x∧x.par= -1∧x.st=s
 node:∀k x,Cc vs k=some x→k≠0→∃y ms pk,0≤x.par∧x.par<k∧Cc vs x.par=some y∧yP N b y.st x.inp (x.st,ms,pk)
 kid:∀k x j,Cc vs k=some x→j∈x.kids→∃z,Cc vs j=some z∧z.par=k
 all:∀j z,Cc vs j=some z→j≠0→∃y,Cc vs z.par=some y∧j∈y.kids
 ql:∀k x,Cc vs k=some x→Ws b x.st∧(x.st.I.length:Int)≤s.I.length+232*k∧x.kids.length≤c∧Zp x.inp
 len:vs.length≤c
def VK.par {N:Nat}{b:AF}{s:AI}{vs:List (Int×Dv)}{c:Nat}(n:VK N b s vs c) {k:Int}{x:Dv}(i:Cc vs k=some x):x.par<k∧(k≠0→(Cc vs x.par).isSome=true)∧(k=0→x.par= -1):=by
 by_cases e:k=0
 ·subst e;obtain⟨y,a,d,_⟩:=n.root;rw[i] at a;cases a;exact⟨by omega,λg=>absurd rfl g,λ_=>d⟩
 ·obtain⟨y,l,m,a,d,j,_⟩:=n.node k x i e;exact⟨d,λ_=>by rw[j];rfl,λg=>absurd g e⟩
def VK.neg1 {N:Nat}{b:AF}{s:AI}{vs:List (Int×Dv)}{c:Nat}(g:VK N b s vs c) {k:Int}(d:k<0):Cc vs k=none:=by
 cases a:Cc vs k with
 |none=>rfl
 |some x=>have:=(g.key k x a).1;omega
def VK.big {N:Nat}{b:AF}{s:AI}{vs:List (Int×Dv)}{c:Nat}(g:VK N b s vs c) {k:Int}(d:(c:Int)≤k):Cc vs k=none:=by
 cases a:Cc vs k with
 |none=>rfl
 |some x=>have:=(g.key k x a).2;omega
def VK.add {N:Nat}{b:AF}{s:AI}{vs:List (Int×Dv)}{c:Nat}(h:VK N b s vs c) {p:Int}{x:Dv}(u:Cc vs p=some x) {inp:B3}(Y:Zp inp) {y:AI×List AX×List Int}(o:yP N b x.st inp y):VK N b s (NK vs p { x with kids:=x.kids++[(c:Int)]}++[((c:Int),⟨p,inp,y.1,[]⟩)]) (c+1):=by
 have W:Cc vs (c:Int)=none:=h.big (Acj _);obtain⟨F,G⟩:=h.key p x u;have v:=λk=>Se (k:=k) (y:={ x with kids:=x.kids++[(c:Int)]}) (z:=⟨p,inp,y.1,[]⟩) u W;generalize Z:NK vs p { x with kids:=x.kids++[(c:Int)]}++[((c:Int),(⟨p,inp,y.1,[]⟩:Dv))]=V at v ⊢
 have A:∀k z,Cc vs k=some z→∃a,Cc V k=some a∧a.par=z.par∧a.inp=z.inp∧a.st=z.st∧∀j∈z.kids,j∈a.kids:=λk z d=>by
  have H:k≠c:=λe=>by rw[e,W] at d;cases d
  rw[v,Abl H];by_cases e:k=p
  ·subst e;rw[u] at d;cases d;exact⟨_,Abm rfl,rfl,rfl,rfl,λj i=>Adm _ i⟩
  ·exact⟨z,by rw[Abl e];exact d,rfl,rfl,rfl,λj i=>i⟩
 have g:∀k a,Cc V k=some a→(k=c∧a=⟨p,inp,y.1,[]⟩)∨(k≠c∧∃z,Cc vs k=some z∧a.par=z.par∧a.inp=z.inp∧a.st=z.st∧(∀j∈a.kids,j∈z.kids∨(j=c∧k=p))∧a.kids.length≤z.kids.length+1):=λk a d=>by
  rw[v] at d;by_cases e:k=c
  ·rw[Abm e] at d;cases d;exact .inl ⟨e,rfl⟩
  ·rw[Abl e] at d;by_cases D:k=p
   ·rw[Abm D] at d;cases d;refine .inr ⟨e,x,by rw[D];exact u,rfl,rfl,rfl,λj i=>?_,by simp⟩;rcases Acb.1 i with i|i
    ·exact .inl i
    ·exact .inr ⟨Acf.1 i,D⟩
   ·rw[Abl D] at d;exact .inr ⟨e,a,d,rfl,rfl,rfl,λj i=> .inl i,by omega⟩
 have J:Cc V (c:Int)=some ⟨p,inp,y.1,[]⟩:=by rw[v,Abm rfl]
 have aa:=h.ql p x u;refine⟨λk a d=>?_,?_,λk a d K=>?_,λk a j d i=>?_,λj a d M=>?_,λk a d=>?_,?_⟩
 ·rcases g k a d with ⟨rfl,_⟩|⟨_,z,l,_⟩
  ·omega
  ·have:=h.key k z l;omega
 ·obtain⟨z,l,n,B⟩:=h.root;obtain⟨a,m,Q,_,C,_⟩:=A 0 z l;exact⟨a,m,Q.trans n,C.trans B⟩
 ·rcases g k a d with ⟨rfl,rfl⟩|⟨_,z,l,n,B,h4,_⟩
  ·obtain⟨x',m,_,_,C,_⟩:=A p x u;exact⟨x',y.2.1,y.2.2,F,G,m,by rw[C];exact o⟩
  ·obtain⟨w,ms,pk,q,t,X,U⟩:=h.node k z l K;obtain⟨w',m,_,_,C,_⟩:=A _ w X;exact⟨w',ms,pk,by rw[n];exact q,by rw[n];exact t,by rw[n];exact m,by rw[C,B,h4];exact U⟩
 ·rcases g k a d with ⟨_,rfl⟩|⟨_,z,l,_,_,_,h5,_⟩
  ·cases i
  ·rcases h5 j i with i|⟨rfl,rfl⟩
   ·obtain⟨w,q,t⟩:=h.kid k z j l i;obtain⟨w',m,Q,_⟩:=A j w q;exact⟨w',m,Q.trans t⟩
   ·exact⟨_,J,rfl⟩
 ·rcases g j a d with ⟨rfl,rfl⟩|⟨_,z,l,n,_⟩
  ·exact⟨{ x with kids:=x.kids++[(c:Int)]},by show Cc V p=_;rw[v,Abl (by omega),Abm rfl],by simp⟩
  ·obtain⟨w,q,t⟩:=h.all j z l M;obtain⟨w',m,_,_,_,k5⟩:=A _ w q;exact⟨w',by rw[n];exact m,k5 j t⟩
 ·rcases g k a d with ⟨rfl,rfl⟩|⟨_,z,l,_,B,h4,_,h6⟩
  ·have ab:=o.ql;exact⟨o.rg,by show(y.1.I.length:Int)≤_;omega,Abn _,Y⟩
  ·obtain⟨q,t,X,U⟩:=h.ql k z l;exact⟨by rw[h4];exact q,by rw[h4];exact t,by omega,by rw[B];exact U⟩
 ·rw[←Z,Acg];have:=h.len;simp [NK];exact this
def nU {N:Nat}(m:8000000000000<N) {vs:List (Int×Dv)}{p:Int}{ks:List Int}{inp:B3}{fd:Int→Option (Int×Int×Option Ey)}{kj:Option (Int×Int×Option Ey)}(d:∀k∈ks,k≠p∧∃z,Cc vs k=some z∧Zp z.inp) (o:ks.length≤1000):∀(n i:Nat),ks.length<n+i→i≤ks.length→(∃k∈ks,∃z,Cc vs k=some z∧z.inp=inp∧Eu N vs p ks inp fd kj n (i:Int)=fd k)∨((∀k∈ks.drop i,∀z,Cc vs k=some z→z.inp≠inp)∧Eu N vs p ks inp fd kj n (i:Int)=kj)
 |0,i,w,q=>by omega
 |n+1,i,w,q=>by
  simp only[Eu];rcases Ab4 i ks.length with a|a
  ·obtain⟨s,z,g,j⟩:=d _ (Ab2 a);rw[FD a,Abj,BF a,Abi,Abs s,Abk,g,Abi];obtain⟨v,t,kv⟩:=Uh m z.inp inp j;rw[t,Abi];cases v with
   |true=>exact .inl ⟨_,Ab2 a,z,g,kv.1 rfl,rfl⟩
   |false=>
    rw[Abk,A9 (by omega)];rcases nU m d o n (i+1) (by omega) a with l|⟨l,h3⟩
    ·exact .inl l
    ·refine .inr ⟨λk b u c=>?_,h3⟩;rw[Ad0 a] at b;rcases Abr.1 b with rfl|b
     ·rw[g] at c;cases c;exact λe=>by have:=kv.2 e;cases this
     ·exact l k b u c
  ·rw[Fj a,Abk,Adq a];exact .inr ⟨λk d=>by(cases d),rfl⟩
def fT {N:Nat}(G:18446744073709551616<N) {b:AF}(H:Zs b) {s:AI}(U:s.I.length+100000≤4000000000000) {vs:List (Int×Dv)}{c:Nat}(h:VK N b s vs c) (V:c≤200) {inp:B3}(j:Zp inp) (p:Int):
  (Cc vs p=none∧Cz N (some ⟨b,vs,c⟩) p inp=some (0,11,some ⟨b,vs,c⟩))∨∃x,Cc vs p=some x∧
   ((x.st.B=16777216∧Cz N (some ⟨b,vs,c⟩) p inp=some (0,15,some ⟨b,vs,c⟩))∨
   (x.st.B<16777216∧∃k z,Cc vs k=some z∧k≠0∧z.par=p∧z.inp=inp∧Cz N (some ⟨b,vs,c⟩) p inp=some (k,0,some ⟨b,vs,c⟩))∨
   (x.st.B<16777216∧(∀k z,Cc vs k=some z→k≠0→z.par=p→z.inp≠inp)∧∃y d,yP N b x.st inp y∧d=NK vs p { x with kids:=x.kids++[(c:Int)]}++[((c:Int),⟨p,inp,y.1,[]⟩)]∧Cz N (some ⟨b,vs,c⟩) p inp=some ((c:Int),0,some ⟨b,d,((c+1:Nat):Int)⟩)∧VK N b s d (c+1))):=by
 unfold Cz;rw[Abi];cases i:Cc vs p with
 |none=>exact .inl ⟨rfl,rfl⟩
 |some x=>
  refine .inr ⟨x,rfl,?_⟩;obtain⟨v,W,X,Y⟩:=h.ql p x i;obtain⟨J,K⟩:=h.key p x i;have Z:=v.rg.hour;simp only[Option.isSome_some,Acq,Abk,Abi];by_cases l:x.st.B=16777216
  ·rw[Ab3 l,Abj];exact .inl ⟨l,rfl⟩
  ·rw[Abs l,Abk];have g:x.st.B<16777216:=by omega
   refine .inr ?_;have m:∀k∈x.kids,k≠p∧∃z,Cc vs k=some z∧Zp z.inp:=λk n=>by
    obtain⟨z,a,A⟩:=h.kid p x k i n;have:=(h.par a).1;exact⟨by omega,z,a,(h.ql k z a).2.2.2⟩
   rcases nU (N:=N) (by omega) (fd:=λk=>some (k,0,some ⟨b,vs,c⟩)) (kj:=IJ N ⟨b,vs,c⟩ p inp x) (inp:=inp) m (by omega) N 0 (by omega) (Abn _) with ⟨k,n,z,a,A,q⟩|⟨a,q⟩
   ·obtain⟨z',C,M⟩:=h.kid p x k i n;rw[a] at C;cases C;have:=(h.par a).1;exact .inl ⟨g,k,z,a,by omega,M,A,q⟩
   ·rw[List.drop_zero] at a;obtain⟨y,o⟩:=cO G H v g (by omega) j;have hl:=h.len;refine .inr ⟨g,λk z D t u=>?_,y,_,o,rfl,?_,h.add i j o⟩
    ·obtain⟨w,F,Q⟩:=h.all k z D t;rw[u,i] at F;cases F;exact a k Q z D
    ·rw[show Eu N vs p x.kids inp _ _ N 0=_ from q];unfold IJ;rw[Abs (by show ¬4096≤(vs.length:Int);omega),Abk,U5 j,Abi,o.er,Abi,show Cc vs (c:Int)=none from h.big (Acj _)];simp only[Aeo,Abk];rw[GZ (by omega),A9 (by omega)]
def Sa (vs:List (Int×Dv)):Nat→Int→List Int
 |0,_=>[]
 |n+1,id=>match Cc vs id with
  |none=>[]
  |some x=>id::Sa vs n x.par
def MB {vs:List (Int×Dv)}{n:Nat}{id:Int}(a:Cc vs id=none):Sa vs n id=[]:=by
 cases n with
 |zero=>rfl
 |succ n=>unfold Sa;rw[a]
def Oj {vs:List (Int×Dv)}{n:Nat}{id:Int}{x:Dv}(a:Cc vs id=some x):Sa vs (n+1) id=id::Sa vs n x.par:=by
 rw[Sa,a]
def Uc {vs:List (Int×Dv)}:∀(m:Nat) (id:Int),(Sa vs m id).length≤m
 |0,_=>Ab1 _
 |m+1,id=>by
  cases a:Cc vs id with
  |none=>rw[MB a];exact Abn _
  |some x=>rw[Oj a,Ady];have:=Uc (vs:=vs) m x.par;omega
def cM {N:Nat}{b:AF}{s:AI}{vs:List (Int×Dv)}{c:Nat}(k:VK N b s vs c) {M:Nat}:∀(m n:Nat) (l:List Int) (id:Int),id<m→m<n→l.length+m≤1000→Dp M vs n l id=some (l++Sa vs m id)
 |0,n,l,id,d,g,_=>by
  obtain⟨n,rfl⟩:∃j,n=j+1:=⟨n-1,by omega⟩
  simp only[Dp];rw[k.neg1 d];simp [Sa]
 |m+1,n,l,id,d,g,i=>by
  obtain⟨n,rfl⟩:∃j,n=j+1:=⟨n-1,by omega⟩
  simp only[Dp];cases a:Cc vs id with
  |none=>rw[MB a];simp
  |some x=>
   have:=(k.par a).1;simp only[Option.isSome_some,Abj,Abi];rw[GZ (by omega),cM k m n (l++[id]) x.par (by omega) (by omega) (by simp;omega),Oj a];simp
def Wp (l:List Int) (i:Nat):List Int:=(List.range l.length).map λk=>if k<i∨l.length≤k+i then l.getD (l.length-1-k) 0 else l.getD k 0
def Qa {l:List Int}{i k:Nat}(a:k<l.length):(Wp l i)[k]? =some (if k<i∨l.length≤k+i then l.getD (l.length-1-k) 0 else l.getD k 0):=by
 unfold Wp;rw[Adc,Ae0 a];rfl
def PV {l:List Int}{i:Nat}:(Wp l i).length=l.length:=by simp [Wp]
def vB {l:List Int}:Wp l 0=l:=by
 apply Acr;intro k;by_cases a:k<l.length
 ·rw[Qa a,Abl (by omega),Acv,Abw a];rfl
 ·rw[Acc (by rw[PV];omega),Acc (by omega)]
def iL {l:List Int}{i:Nat}(c:l.length≤2*i+1):Wp l i=l.reverse:=by
 apply Acr;intro k;by_cases a:k<l.length
 ·rw[Qa a,List.getElem?_reverse a,Abw (by omega)];by_cases b:k<i∨l.length≤k+i
  ·rw[Abm b,Acv,Abw (by omega)];rfl
  ·rw[Abl b,Acv,Abw a];simp only[Ac7];have:l.length-1-k=k:=by omega
   simp only[this]
 ·rw[Acc (by rw[PV];omega),Acc (by simp;omega)]
def bF {l:List Int}{i k:Nat}(a:k<l.length) (b:i≤k) (c:k+i<l.length):ix (Wp l i) (k:Int)=some (l.getD k 0):=by
 unfold ix;rw[Abl (by omega),Acs,Qa a,Abl (by omega)]
def bE {l:List Int}{i:Nat}(g:2*i+1<l.length):((Wp l i).set i (l.getD (l.length-1-i) 0)).set (l.length-1-i) (l.getD i 0)=Wp l (i+1):=by
 apply Acr;intro k;by_cases a:k<l.length
 ·rw[List.getElem?_set,List.getElem?_set,Qa a,Qa a];simp only[List.length_set,PV];by_cases b:l.length-1-i=k
  ·subst b;rw[Abm rfl,Abm a,Abm (by omega)];congr 2;omega
  ·rw[Abl b];by_cases c:i=k
   ·subst c;rw[Abm rfl,Abm a,Abm (by omega)]
   ·rw[Abl c];by_cases d:k<i∨l.length≤k+i
    ·rw[Abm d,Abm (by omega)]
    ·rw[Abl d,Abl (by omega)]
 ·rw[Acc (by simp [PV];omega),Acc (by rw[PV];omega)]
def mR {N:Nat}{l:List Int}(b:l.length≤1000):∀(n i:Nat),l.length<n+i→2*i≤l.length→D5 N n (i:Int) ((l.length:Int)-1-i) (Wp l i)=some l.reverse
 |0,i,c,d=>by omega
 |n+1,i,c,d=>by
  simp only[D5];by_cases g:2*i+1<l.length
  ·have j:(l.length:Int)-1-i=((l.length-1-i:Nat):Int):=by omega
   have k:ix (Wp l i) ((l.length-1-i:Nat):Int)=some (l.getD (l.length-1-i) 0):=bF (by omega) (by omega) (by omega);have m:ix (Wp l i) (i:Int)=some (l.getD i 0):=bF (by omega) (by omega) (by omega);have a:∃z,ix (upd (Wp l i) (i:Int) (l.getD (l.length-1-i) 0)) ((l.length-1-i:Nat):Int)=some z:=by
    refine⟨_,BF (l:=upd (Wp l i) (i:Int) (l.getD (l.length-1-i) 0)) (i:=l.length-1-i) ?_⟩;simp [upd,PV];omega
   obtain⟨z,a⟩:=a;rw[j,Ab3 (by omega),Abj,k,m];simp only[Abi];rw[a];simp only[Abi];have o:upd (upd (Wp l i) (i:Int) (l.getD (l.length-1-i) 0)) ((l.length-1-i:Nat):Int) (l.getD i 0)=Wp l (i+1):=bE g;rw[o,A9 (by omega),ER (by omega) (by omega),show((l.length-1-i:Nat):Int)-1=(l.length:Int)-1-((i+1:Nat):Int) by omega];exact mR b n (i+1) (by omega) (by omega)
  ·rw[Abs (by omega),Abk,iL (by omega)]
def pW {N:Nat}(b:8000000000000<N) {l:List Int}(a:l.length≤1000):Gs N l=some l.reverse:=by
 unfold Gs;rw[ER (by omega) (by omega)];have c:=mR (N:=N) a N 0 (by omega) (by omega);rw[vB] at c;have e:(l.length:Int)-1-((0:Nat):Int)=(l.length:Int)-1:=by omega
 rw[e] at c;exact c
def iY {N:Nat}(d:18446744073709551616<N) {b:AF}{s:AI}{vs:List (Int×Dv)}{c:Nat}(i:VK N b s vs c) (g:c≤200) (id cr:Int):GD N (some ⟨b,vs,cr⟩) id=some (Sa vs c id).reverse:=by
 unfold GD;rw[Abi];have e:Dp N vs N [] id=some (Sa vs c id):=by
  cases a:Cc vs id with
  |none=>
   obtain⟨M,rfl⟩:∃j,N=j+1:=⟨N-1,by omega⟩
   simp only[Dp];rw[a,MB a];rfl
  |some x=>
   have:=i.key id x a;exact cM i c N [] id this.2 (by omega) (by simp;omega)
 rw[show Dp N (Ey.vs ⟨b,vs,cr⟩) N [] id=_ from e,Abi];have:=Uc (vs:=vs) c id;exact pW (by omega) (by omega)
def YZ {N:Nat}{b:AF}{vs:List (Int×Dv)}{cr id:Int}:GR N (some ⟨b,vs,cr⟩) id=some (match Cc vs id with|none=>(st0,11)|some x=>(x.st,0)):=by
 unfold GR;rw[Abi];cases Cc vs id<;>rfl
def NH (vs:List (Int×Dv)) (ks:List Int):Prop:=ks.Nodup∧(∀k∈ks,(Cc vs k).isSome=true)∧∀k∈ks,k≠0→∀x,Cc vs k=some x→x.par∈ks
def NH.anc {N:Nat}{b:AF}{s:AI}{vs:List (Int×Dv)}{c:Nat}(j:VK N b s vs c) {ks:List Int}(i:NH vs ks):∀(m:Nat) (id:Int),id∈ks→∀k∈Sa vs m id,k∈ks
 |0,id,_,k,a=>by cases a
 |m+1,id,d,k,a=>by
  cases g:Cc vs id with
  |none=>rw[MB g] at a;cases a
  |some x=>
   rw[Oj g] at a;rcases Abr.1 a with rfl|a
   ·exact d
   ·by_cases e:id=0
    ·rw[(j.par g).2.2 e,MB (j.neg1 (by omega))] at a;cases a
    ·exact NH.anc j i m x.par (i.2.2 id d e x g) k a
def uY {N:Nat}{b:AF}{s:AI}{vs:List (Int×Dv)}{c:Nat}(J:VK N b s vs c):∀(m n:Nat) (ks:List Int) (id:Int),id<m→m<n→ks.Nodup→(∀k∈ks,(Cc vs k).isSome=true)→(∀k∈ks,k≠0→∀x,Cc vs k=some x→x.par∈ks∨x.par=id)→∃g,D1 vs n ks id=some g∧NH vs g∧∀k,k∈g↔k∈ks∨k∈Sa vs m id:=by
 intro m
 induction m with
 |zero=>
  intro n ks id w B p q t;obtain⟨n,rfl⟩:∃j,n=j+1:=⟨n-1,by omega⟩
  simp only[D1];rw[J.neg1 w];refine⟨ks,rfl,⟨p,q,λk d h0 x i=>?_⟩,λk=>by simp [Sa]⟩;rcases t k d h0 x i with o|o
  ·exact o
  ·have:=(J.par i).2.1 h0;rw[o,J.neg1 w] at this;cases this
 |succ m C=>
  intro n ks id w B p q t;obtain⟨n,rfl⟩:∃j,n=j+1:=⟨n-1,by omega⟩
  simp only[D1];cases i:Cc vs id with
  |none=>
   refine⟨ks,rfl,⟨p,q,λk d h0 x l=>?_⟩,λk=>by rw[MB i];simp⟩;rcases t k d h0 x l with o|o
   ·exact o
   ·have:=(J.par l).2.1 h0;rw[o,i] at this;cases this
  |some x=>
   by_cases u:id∈ks
   ·have v:NH vs ks:=⟨p,q,λk d h0 x l=>(t k d h0 x l).elim (λe=>e) λe=>by rw[e];exact u⟩
    refine⟨ks,by simp [u],v,λk=>⟨.inl,λd=>d.elim (λe=>e) λe=>v.anc J _ _ u k e⟩⟩
   ·have A:=(J.par i).1;obtain⟨g,D,F,G⟩:=C n (ks++[id]) x.par (by omega) (by omega) (Aer.2 ⟨p,by simp,λa H b I e=>u (by rw[←Acf.1 I,←e];exact H)⟩) (λk d=>by
     rcases Acb.1 d with d|d
     ·exact q k d
     ·rw[Acf.1 d,i];rfl) (λk d h0 y z=>by
     rcases Acb.1 d with d|d
     ·rcases t k d h0 y z with e|e
      ·exact .inl (Adm _ e)
      ·exact .inl (by rw[e];simp)
     ·rw[Acf.1 d,i] at z;cases z;exact .inr rfl)
    refine⟨g,by simpa [u] using D,F,λk=>?_⟩;rw[G,Oj i,Acb,Acf,Abr,or_assoc]
def iX {N:Nat}(G:18446744073709551616<N) {b:AF}{s:AI}{vs:List (Int×Dv)}{c:Nat}(J:VK N b s vs c) (H:c≤200) {keep:List Int}(I:keep.length≤1000):∀(n i:Nat) (ks:List Int),keep.length<n+i→i≤keep.length→NH vs ks→∃d,EG N vs keep n ks (i:Int)=some d∧NH vs d∧∀k,k∈d↔k∈ks∨∃id∈keep.drop i,k∈Sa vs c id:=by
 intro n
 induction n with
 |zero=>intro i ks u v;omega
 |succ n w=>
  intro i ks u v a;simp only[EG];rcases Ab4 i keep.length with g|g
  ·rw[FD g,Abj,BF g,Abi];have:∃l,D1 vs N ks keep[i]=some l∧NH vs l∧∀k,k∈l↔k∈ks∨k∈Sa vs c keep[i]:=by
    by_cases p:keep[i]<(c:Int)
    ·exact uY J c N ks keep[i] p (by omega) a.1 a.2.1 λk q h0 x m=> .inl (a.2.2 k q h0 x m)
    ·have m:=J.big (k:=keep[i]) (by omega);obtain⟨M,rfl⟩:∃j,N=j+1:=⟨N-1,by omega⟩
     refine⟨ks,?_,a,λk=>by rw[MB m];simp⟩;simp only[D1];rw[m];rfl
   obtain⟨l,y,z,A⟩:=this;rw[y,Abi,A9 (by omega)];obtain⟨B,C,D,F⟩:=w (i+1) l (by omega) g z;refine⟨B,C,D,λk=>?_⟩;rw[F,A,Ad0 g];simp only[Abr];constructor
   ·rintro((a|a)|⟨id,t,o⟩)
    ·exact .inl a
    ·exact .inr ⟨_,.inl rfl,a⟩
    ·exact .inr ⟨id,.inr t,o⟩
   ·rintro(a|⟨id,rfl|t,o⟩)
    ·exact .inl (.inl a)
    ·exact .inl (.inr o)
    ·exact .inr ⟨id,t,o⟩
  ·rw[Fj g,Abk,Adq g];exact⟨ks,rfl,a,λk=>by simp⟩
def VK.kept {N:Nat}{b:AF}{s:AI}{vs:List (Int×Dv)}{c:Nat}(K:VK N b s vs c) {ks:List Int}(D:NH vs ks) (h0:(0:Int)∈ks) (F:ks.length≤c):VK N b s (Lm vs ks) c:=by
 have m:∀k g,Cc (Lm vs ks) k=some g→k∈ks∧∃z,Cc vs k=some z∧g=ZG ks z:=λk g a=>by
  rw[RC] at a;by_cases e:k∈ks
  ·rw[Abm e] at a;obtain⟨z,d,t⟩:=Ac0.1 a;exact⟨e,z,d,t.symm⟩
  ·rw[Abl e] at a;cases a
 have q:∀k z,k∈ks→Cc vs k=some z→Cc (Lm vs ks) k=some (ZG ks z):=λk z u a=>by
  rw[RC,Abm u,a];rfl
 refine⟨λk g a=>?_,?_,λk g a n=>?_,λk g j a G=>?_,λj g a o=>?_,λk g a=>?_,?_⟩
 ·obtain⟨_,z,d,_⟩:=m k g a;exact K.key k z d
 ·obtain⟨x,d,t,H⟩:=K.root;exact⟨_,q 0 x h0 d,t,H⟩
 ·obtain⟨p,z,d,rfl⟩:=m k g a;obtain⟨y,I,J,i,l,v,A⟩:=K.node k z d n;exact⟨_,I,J,i,l,q _ y (D.2.2 k p n z d) v,A⟩
 ·obtain⟨p,z,d,rfl⟩:=m k g a;obtain⟨B,C⟩:=Ac2.1 G;obtain⟨w,i,l⟩:=K.kid k z j d B;exact⟨_,q j w (by simpa using C) i,l⟩
 ·obtain⟨p,z,d,rfl⟩:=m j g a;obtain⟨y,i,l⟩:=K.all j z d o;exact⟨_,q _ y (D.2.2 j p o z d) i,Ac2.2 ⟨l,by simpa using p⟩⟩
 ·obtain⟨_,z,d,rfl⟩:=m k g a;obtain⟨i,l,v,A⟩:=K.ql k z d;exact⟨i,l,Acw (Afd _ _) v,A⟩
 ·unfold Lm;exact Acw (List.length_filterMap_le _ _) F
def cP:∀(c:Nat) (ks:List Int),ks.Nodup→(∀k∈ks,0≤k∧k<(c:Int))→ks.length≤c:=λc ks g j=>by
 have l:ks.length≤((List.range c).map λ(i:Nat)=>(i:Int)).length:=List.Nodup.length_le_of_subset g λk d=>by
  obtain⟨a,b⟩:=j k d;exact Ach.2 ⟨k.toNat,Acp.2 (by omega),by omega⟩
 simpa using l
def cK {N:Nat}(l:18446744073709551616<N) {b:AF}{s:AI}{vs:List (Int×Dv)}{c:Nat}(u:VK N b s vs c) (m:c≤200) {keep:List Int}(n:keep.length≤1000) (cr:Int):∃ks,HY N (some ⟨b,vs,cr⟩) keep=some (some ⟨b,Lm vs ks,cr⟩)∧NH vs ks∧VK N b s (Lm vs ks) c∧∀k,k∈ks↔k=0∨∃id∈keep,k∈Sa vs c id:=by
 obtain⟨x,i,q,t⟩:=u.root;have h0:NH vs [0]:=⟨by simp,λk a=>by rw[Acf.1 a,i];rfl,λk a g=>absurd (Acf.1 a) g⟩
 obtain⟨ks,o,d,j⟩:=iX l u m n N 0 [0] (by omega) (Abn _) h0;refine⟨ks,?_,d,u.kept d ((j 0).2 (.inl (by simp))) (cP c ks d.1 λk a=>?_),λk=>by rw[j,List.drop_zero,Acf]⟩
 ·unfold HY;rw[Abi];simp only[i,Option.isSome_some,Abj];rw[show EG N vs keep N [0] 0=_ from o,Abi]
 ·obtain⟨y,p⟩:=Ad1.1 (d.2.1 k a);exact u.key k y p
end Go.Proofs.YtabonambpbofgaaGreat
