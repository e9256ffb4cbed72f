import Derived.Test.YtabonambpbofgaaGreatNPureTr
import Derived.Test.YtabonambpbofgaaGreatNCore10
import Derived.ProofKit
import Derived.OpenShut
import Derived.JoinedCond
import Derived.Deep.Slices
import Derived.SizedLaws
namespace Go.Proofs.YtabonambpbofgaaGreat
set_option linter.all false
open Go.RowKit
def rX {N:Nat}(p:8000000000000<N) (b:AF) (l:List BZ):∃v,JT N b l=some v∧(v=true→b.A.length≤6∧b.C.length≤6∧l.length≤16∧∀x∈l,Z4 x.D∧x.Bk.length≤8∧x.D.S.length≤8):=by
 unfold JT;cases g:((decide (6<(b.A.length:Int))||decide (6<(b.C.length:Int)))||decide (16<(l.length:Int))) with
 |true=>exact⟨false,rfl,λG=>by cases G⟩
 |false=>
  simp only[Ac9,Ac2] at g;obtain⟨⟨q,s⟩,u⟩:=g;rw[Acd];rcases Na l.length (λn i (_:Unit)=>E5 N l (HK N) n i) (λ_=>HK N) (some false) (λk _=>∀x∈l.take k,Z4 x.D∧x.Bk.length≤8∧x.D.S.length≤8) (λn k t c=>by
   simp only[E5];rw[Fj c];rfl) (λn k t d c=>by
   simp only[E5];rw[FA c,Acc,BG c,Acb,BA (by omega)];cases m:((((decide (8<((l[k]).D.S.length:Int))||decide (6<((l[k]).D.X.length:Int)))||decide (6<((l[k]).D.Y.length:Int)))||decide (6<((l[k]).D.U.length:Int)))||decide (6<((l[k]).D.Ad.length:Int)))
   ·simp only[Ac9,Ac2] at m;obtain⟨⟨⟨⟨w,y⟩,z⟩,B⟩,F⟩:=m;rw[Acd,Acb,Acb];by_cases o:8<((l[k]).Bk.length:Int)
    ·rw[Acx o];exact .inl rfl
    ·rw[Ack o];refine .inr ⟨(),λj a=>?_,rfl⟩;rw[Adx c] at a;rcases Ac7.1 a with a|a
     ·exact d j a
     ·cases Ac3.1 a;exact⟨⟨by omega,by omega,by omega,by omega,by omega⟩,by omega,by omega⟩
   ·exact .inl rfl) N 0 () (λi d=>by cases d) (by omega) (Aci _) with e|⟨_,i1,e⟩
  ·exact⟨false,e,λG=>by cases G⟩
  ·rw[Adk] at i1;exact⟨true,e,λ_=>⟨by omega,by omega,by omega,i1⟩⟩
def Aab (b:AF) (s:AI):Eu:=⟨b,[(0,⟨-1,iQ,s,[]⟩)],((1:Nat):Int)⟩
def gO {N:Nat}(i:18446744073709551616<N) (b:AF) (s:AI) (l:s.I.length≤4000000000000):∃t,IL N b s=some t∧(t=none∨(t=some (Aab b s)∧Gv N b=some true∧Zz b s)):=by
 unfold IL;obtain⟨v,c,kv⟩:=WL i b;cases v with
 |false=>rw[c];exact⟨none,rfl,.inl rfl⟩
 |true=>
  rw[c,Acb,Adg,Acd];obtain⟨a,p,_,_⟩:=Ro i c;obtain⟨v,j,n⟩:=ZW (N:=N) (by omega) a.head a.places s l;cases v with
  |false=>rw[j];exact⟨none,rfl,.inl rfl⟩
  |true=>
   have m:=n rfl;have x:=m.rg.x;have q:=a.head.own;have o:=a.head.pl;have u:=a.head.li;have w:=x.own.len;have z:=x.rem;have A:=x.gates;have B:=x.inn;have C:=x.out;have d:8000000000000<N:=by omega
   have g:Kc N b s=some (some (Aab b s)):=by
    unfold Kc;rw[c,Acb,Adg,Acd,j,Acb,Acb,Adg,Acd,VL d (by omega) (λy k=>by have:=(x.own.all y k).len;omega) (by omega) l (λy k=>by have:=(x.que y k).1.len;omega) (by omega) (by omega) (by omega),Acb,VN d a (jU i c),Acb];rfl
   rw[j,Acb,Acb,Adg,Acd,g];exact⟨_,rfl,.inr ⟨rfl,rfl,m⟩⟩
def vk1 {N:Nat}{b:AF}{s:AI}(c:Zz b s):VK N b s [(0,⟨-1,iQ,s,[]⟩)] 1:=by
 have a:∀k x,CV [(0,(⟨-1,iQ,s,[]⟩:DL))] k=some x→k=0∧x=⟨-1,iQ,s,[]⟩:=λk x g=>by
  rw[LM,O0] at g;by_cases e:(0:Int)=k
  ·rw[Acf e] at g;cases g;exact⟨e.symm,rfl⟩
  ·rw[Ace e] at g;cases g
 refine⟨λk x g=>?_,⟨_,rfl,rfl,rfl⟩,λk x g h0=>absurd (a k x g).1 h0,λk x j g d=>?_,λk x g h0=>absurd (a k x g).1 h0,λk x g=>?_,Acr _⟩
 ·obtain⟨rfl,_⟩:=a k x g;omega
 ·obtain⟨_,rfl⟩:=a k x g;cases d
 ·obtain⟨rfl,rfl⟩:=a k x g;exact⟨c,by show(s.I.length:Int)≤_;omega,Aci _,⟨Aci _,Aci _,Aci _,Aci _,Aci _⟩⟩
def YE:Ff BN=some true:=by decide +kernel
def PF {N:Nat}(b:8000000000000<N) {a:List Int}(c:a.length≤1000):CQ N a a=some true:=by
 obtain⟨v,e,k⟩:=xT b a a c;rw[e,k.2 rfl]
def Ze {N:Nat}(c:8000000000000<N) {b:AF}(d:II b) {s:AI}(g:Zz b s) (o:s.I.length≤4000000000000):MT N s s=some true:=by
 have p:=d.own;have q:=d.pl;have t:=d.li;have x:=g.rg.x;have u:=x.own.len;have w:=x.rem;have y:=x.gates;have z:=x.inn;have A:=x.out;have j:Dm N s.H s.H (λx=>CQ N x.1 x.2)=some true:=by
  unfold Dm;rw[Ack (by simp),Acd];exact Mu s.H.length (λn i=>CD N s.H s.H (λx=>CQ N x.1 x.2) (DV N) n i) (some true) (λn k a=>by
   simp only[CD];rw[Fj a];rfl) (λn k a=>by
   simp only[CD];rw[FA a,Acc,BG a];simp only[Acb];rw[PF c (by have:=(x.own.all _ (Acw a)).len;omega)];simp only[Acb,Adg,Acd];rw[BA (by omega)]) N 0 (by omega) (Aci _)
 have l:BH N s.I s.I (λx=>Hf N x.1 x.2)=some true:=by
  unfold BH;rw[Ack (by simp),Acd];exact Mu s.I.length (λn i=>AQ N s.I s.I (λx=>Hf N x.1 x.2) (BF N) n i) (some true) (λn k a=>by
   simp only[AQ];rw[Fj a];rfl) (λn k a=>by
   simp only[AQ];rw[FA a,Acc,BG a];simp only[Acb];rw[show Hf N s.I[k] s.I[k]=some true by
    unfold Hf;rw[PF c (by have:=(x.que _ (Acw a)).1.len;omega)];simp]
   simp only[Acb,Adg,Acd];rw[BA (by omega)]) N 0 (by omega) (Aci _)
 have m:Cw N s.P s.P=some true:=by
  unfold Cw;rw[Ack (by simp),Acd];exact Mu s.P.length (λn i=>BR N s.P s.P (Cf N) n i) (some true) (λn k a=>by
   simp only[BR];rw[Fj a];rfl) (λn k a=>by
   simp only[BR];rw[FA a,Acc,BG a];simp only[Acb];rw[show RE (s.P[k]).v (s.P[k]).v=true by simp [RE,Vs],Adg,Acd,BA (by omega)]) N 0 (by omega) (Aci _)
 unfold MT;rw[Acx rfl,Acc,j,Acb,Acb,Acc,PF c (by omega),Acb,Acb,Acc,l,Acb,Acb,Acc,m,Acb,Acb,Acc,PF c (by omega),Acb,Acb,Acc,PF c (by omega),Acb,Acb]
def Qo {k:Int}:∀{vs:List (Int×DL)},(CV vs k).isSome=true↔k∈vs.map λe=>e.1
 |[]=>by simp [O0]
 |e::vs=>by
  rw[LM,Acz,Acl];by_cases b:e.1=k
  ·rw[Acf b];simp [b]
  ·rw[Ace b,Qo];exact⟨.inr,λa=>a.elim (λe=>absurd e.symm b) λx=>x⟩
def XE {p:Int}{y:DL}{vs:List (Int×DL)}:((MJ vs p y).map λe=>e.1)=vs.map λe=>e.1:=by
 unfold MJ;rw[List.map_map];apply Ae5;intro e _;show(if e.1=p then (p,y) else e).1=e.1
 by_cases a:e.1=p
 ·rw[Acf a];exact a.symm
 ·rw[Ace a]
def KN (vs:List (Int×DL)):Prop:=(vs.map λe=>e.1).Nodup
def KN.add {vs:List (Int×DL)}(j:KN vs) {p c:Int}{y z:DL}(i:CV vs c=none):KN (MJ vs p y++[(c,z)]):=by
 unfold KN;rw[Adw,XE];refine Afb.2 ⟨j,by simp,λa d b g e=>?_⟩;rw[Acz,List.map_nil,Ac3] at g;rw[e,g] at d;have:=Qo.2 d;rw[i] at this;cases this
def KN.kept {vs:List (Int×DL)}{ks:List Int}(j:ks.Nodup):KN (LV vs ks):=by
 unfold KN LV;suffices s:∀l:List Int,l.Nodup→((l.filterMap λi=>(CV vs i).map λx=>(i,({ x with kids:=x.kids.filter λk=>ks.contains k}:DL))).map λe=>e.1).Nodup∧∀a∈((l.filterMap λi=>(CV vs i).map λx=>(i,({ x with kids:=x.kids.filter λk=>ks.contains k}:DL))).map λe=>e.1),a∈l from(s ks j).1
 intro l
 induction l with
 |nil=>exact λ_=>⟨List.nodup_nil,λa b=>by cases b⟩
 |cons i l m=>
  intro n;obtain⟨o,p⟩:=Aet.1 n;obtain⟨g,c⟩:=m p;rw[Afk];cases q:CV vs i with
  |none=>exact⟨g,λa b=> .tail _ (c a b)⟩
  |some x=>
   simp only[Aed];rw[Acz];exact⟨Aet.2 ⟨λd=>o (c _ d),g⟩,λa b=>(Acl.1 b).elim (λe=>by rw[e];exact .head _) λd=> .tail _ (c a d)⟩
def Xb (vs:List (Int×DL)) (k:Nat):Nat:=(((List.range k).map λ(i:Nat)=>(i:Int)).filter λj=>(CV vs j).isSome).length
def kW {vs:List (Int×DL)}{k:Nat}:Xb vs k≤k:=by
 unfold Xb;refine Adq (Afs _ _) ?_;simp
def Uh {vs:List (Int×DL)}{k:Nat}:Xb vs (k+1)=Xb vs k+if (CV vs (k:Int)).isSome then 1 else 0:=by
 unfold Xb;rw[List.range_succ,Adw,Aep,Ac6];congr 1;rw[Acz,List.map_nil,List.filter_cons];cases (CV vs (k:Int)).isSome<;>rfl
def TP:∀k:Nat,((List.range k).map λ(i:Nat)=>(i:Int)).Nodup:=λk=>by
 rw[List.nodup_iff_pairwise_ne,List.pairwise_map];exact(List.nodup_iff_pairwise_ne.1 List.nodup_range).imp λa e=>a (by omega)
def fQ {N:Nat}{b:AF}{s:AI}{vs:List (Int×DL)}{c:Nat}(j:VK N b s vs c) (g:KN vs):Xb vs c=vs.length:=by
 have h0:(vs.map λe=>e.1).length=vs.length:=Ae7 _;apply Nat.le_antisymm
 ·rw[←h0];refine List.Nodup.length_le_of_subset ((TP c).sublist List.filter_sublist) λk a=>?_;exact Qo.1 (Ads.1 a).2
 ·rw[←h0];refine List.Nodup.length_le_of_subset g λk a=>?_;have d:=Qo.2 a;obtain⟨x,i⟩:=Aeo.1 d;have:=j.key k x i;exact Ads.2 ⟨Adb.2 ⟨k.toNat,Adf.2 (by omega),by omega⟩,d⟩
structure FI (vs:List (Int×DL)) (c:Nat) (P:List (List AN)):Prop where
 len:P.length=c
 one:1≤c
 p0:P[0]? =some []
 nd:KN vs
 bd:∀p∈P,p.length≤c
 mem:∀p∈P,∀i∈p,Z4 i
 pt:∀k x,CV vs k=some x→k≠0→∃q,P[x.par.toNat]? =some q∧P[k.toNat]? =some (q++[x.inp])
def mR {s:AI}:FI [(0,⟨-1,iQ,s,[]⟩)] 1 [[]]:=
 ⟨rfl,Acr _,rfl,by simp [KN],λp a=>(by rw[Ac3.1 a];exact Aci _),λp a i b=>(by (rw [Ac3.1 a] at b;cases b)),λk x c d=>(by (rw [LM,O0,Ace (λe=>d e.symm)] at c;cases c))⟩
def FI.add {N:Nat}{b:AF}{s:AI}{vs:List (Int×DL)}{c:Nat}{P:List (List AN)}(D:FI vs c P) (y:VK N b s vs c) {p:Int}{x:DL}(o:CV vs p=some x) {inp:AN}(A:Z4 inp) {B:AI}{q:List AN}(l:P[p.toNat]? =some q):FI (MJ vs p { x with kids:=x.kids++[(c:Int)]}++[((c:Int),⟨p,inp,B,[]⟩)]) (c+1) (P++[q++[inp]]):=by
 have t:CV vs (c:Int)=none:=y.big (Add _);have u:=D.len;have C:=D.one;have g:∀{i:Nat} {r:List AN},P[i]? =some r→(P++[q++[inp]])[i]? =some r:=λ{i r} d=>by
  rw[Afv (Acq.1 d).1];exact d
 refine⟨by rw[Ac6,u];rfl,by omega,g D.p0,D.nd.add t,λr d=>?_,λr d i a=>?_,λk z j v=>?_⟩
 ·rcases Ac7.1 d with d|d
  ·have:=D.bd r d;omega
  ·rw[Ac3.1 d,Ac6];have:=D.bd q (Adn l);simpa using this
 ·rcases Ac7.1 d with d|d
  ·exact D.mem r d i a
  ·rw[Ac3.1 d] at a;rcases Ac7.1 a with a|a
   ·exact D.mem q (Adn l) i a
   ·rw[Ac3.1 a];exact A
 ·rw[V5 o t] at j;by_cases e:k=c
  ·subst e;rw[Acf rfl] at j;cases j;refine⟨q,g l,?_⟩;rw[Adm,Afw (by omega),u];simp
  ·rw[Ace e] at j;by_cases w:k=p
   ·subst w;rw[Acf rfl] at j;cases j;obtain⟨r,m,n⟩:=D.pt k x o v;exact⟨r,g m,g n⟩
   ·rw[Ace w] at j;obtain⟨r,m,n⟩:=D.pt k z j v;exact⟨r,g m,g n⟩
def FI.kept {vs:List (Int×DL)}{c:Nat}{P:List (List AN)}(g:FI vs c P) {ks:List Int}(b:ks.Nodup):FI (LV vs ks) c P:=by
 refine⟨g.len,g.one,g.p0,KN.kept b,g.bd,g.mem,λk z a h0=>?_⟩;rw[RZ] at a;by_cases e:k∈ks
 ·rw[Acf e] at a;obtain⟨x,d,rfl⟩:=Adt.1 a;exact g.pt k x d h0
 ·rw[Ace e] at a;cases a
def FI.path {N:Nat}{b:AF}{s:AI}{vs:List (Int×DL)}{c:Nat}{P:List (List AN)}(X:FI vs c P) (g:VK N b s vs c):∀(m k:Nat) (x:DL),k<m→CV vs (k:Int)=some x→∃q n p t,P[k]? =some q∧W9 N b s q n p t x.st∧q.length+1=(UD vs c (k:Int)).length:=by
 intro m
 induction m with
 |zero=>intro k x K;omega
 |succ m A=>
  intro k x B d;have C:=g.key k x d;obtain⟨c',rfl⟩:∃j,c=j+1:=⟨c-1,by omega⟩
  by_cases h0:k=0
  ·subst h0;obtain⟨M,u,D,F⟩:=g.root;have i:CV vs 0=some x:=d;rw[i] at u;cases u;refine⟨[],[],[],[],X.p0,by rw[F];exact .nil s,?_⟩;rw[MG d,D,KO (g.neg1 (by omega))];rfl
  ·obtain⟨y,p,Q,U,G,v,o⟩:=g.node k x d (by omega);obtain⟨j,l⟩:∃j:Nat,x.par=(j:Int):=⟨x.par.toNat,by omega⟩
   rw[l] at G v;obtain⟨q,n,V,t,H,I,J⟩:=A j y (by omega) v;obtain⟨W,w,z⟩:=X.pt k x d (by omega);rw[l,Adm,H] at w;cases w;rw[Adm] at z;refine⟨_,_,_,_,z,I.app (.cons o (.nil _)),?_⟩;rw[MG d,l,Ac6,Aei (a:=(k:Int)),←Vz g c' (c'+1) j (by omega) (by omega),←J];rfl
def eN {N:Nat}(g:8000000000000<N) {b:AF}{s t:AI}{l:List AN}{a:List AI}{c:List AX}{d:List (List Int)}(j:W9 N b s l a c d t) (i:l.length≤1000):NJ N b s l=some t:=by
 unfold NJ;exact fM (ins:=l) (kj:=Ko N) j 0 N rfl (by omega) (by omega)
def eJ {N:Nat}(m:18446744073709551616<N) {b:AF}(o:II b) {s:AI}(D:s.I.length+100000≤4000000000000) {vs:List (Int×DL)}{c:Nat}{P:List (List AN)}(M:FI vs c P) (a:VK N b s vs c) (p:c≤200) {cr:Int}{kj:Int→Option Bool}:CN N b s P (some ⟨b,vs,cr⟩) kj N 0 0=kj (vs.length:Int):=by
 have F:=M.len;obtain⟨z,t,j⟩:=GK c (λn i (z:Int)=>CN N b s P (some ⟨b,vs,cr⟩) kj n z i) kj (λk z=>z=(Xb vs k:Int)) (λn k z u=>by
  simp only[CN];rw[Fj (by omega)];rfl) (λn k z v u=>by
  subst v;have w:=kW (vs:=vs) (k:=k);simp only[CN];rw[FA (by omega),Acc,zK];unfold FV;rw[BA (k:=k) (by omega)];cases d:CV vs (k:Int) with
  |none=>
   refine⟨_,rfl,?_⟩;rw[Uh,d];rfl
  |some x=>
   obtain⟨q,G,H,J,l,y,A⟩:=M.path a (k+1) k x (by omega) d;obtain⟨B,K,_⟩:=a.ql k x d;have C:=M.bd q (Adn l);have g:ix P (k:Int)=some q:=by unfold Go.Proofs.YtabonambpbofgaaGreat.ix;rw[Ace (by omega),Adm];exact l
   refine⟨_,rfl,?_⟩;rw[g,Acb];simp only[Acb];rw[eN (by omega) y (by omega),Acb,Ze (by omega) o B (by omega),jQ m a p];simp only[Acb,Adg];rw[show (decide ((0:Int)=11))=false from rfl,Acd,show(decide ((0:Int)≠0))=false from rfl,Acd,Acb,Acd,List.length_reverse,←A,BA (by omega),Acb];simp only[ne_eq,not_true_eq_false,decide_false,Acd];rw[Uh,d,BA (by omega)];rfl) N 0 0 rfl (by omega) (Aci _)
 rw[t,fQ a M.nd] at j;exact j
def eL {N:Nat}(A:18446744073709551616<N) {b:AF}(F:mT b) {s:AI}(G:Zz b s) (H:s.I.length+100000≤4000000000000) {l:List BZ}(hl:l.length≤16) (u:∀x∈l,Z4 x.D∧x.Bk.length≤8) {kj:List (List AN)→Option Eu→Option Bool}:∃vs c P,VK N b s vs c∧FI vs c P∧c≤17∧CF N l kj N [[]] 0 (some (Aab b s))=kj P (some ⟨b,vs,(c:Int)⟩):=by
 obtain⟨⟨P,t⟩,⟨vs,c,rfl,d,a,J⟩,K⟩:=GK l.length (λn i (z:List (List AN)×Option Eu)=>CF N l kj n z.1 i z.2) (λz=>kj z.1 z.2) (λk z=>∃vs c,z.2=some ⟨b,vs,((c:Nat):Int)⟩∧VK N b s vs c∧FI vs c z.1∧c≤k+1) (λn k z p=>by
  simp only[CF];rw[Fj p];rfl) (λn k z M p=>by
  obtain⟨P,t⟩:=z;obtain⟨vs,c,rfl,d,a,J⟩:=M;simp only[CF];rw[FA p,Acc,BG p];simp only[Acb];have B:=u _ (Acw p);by_cases e:IU .and .i64 (l[k]).Bh 7=7
  ·obtain⟨ks,Q,U,V,_⟩:=cY A d (by omega) (keep:=(l[k]).Bk) (by omega) (c:Int);rw[Acx e,Acc,Q,Acb];unfold EL Dt;rw[Acx (show 5<IU .and .i64 (l[k]).Bh 7 by omega),Acc,BA (by omega)];exact⟨(P,_),⟨_,c,rfl,V,a.kept U.1,by omega⟩,rfl⟩
  ·rw[Ack e,Acd];unfold EL Dt;rw[BA (by omega)];by_cases C:5<IU .and .i64 (l[k]).Bh 7
   ·rw[Acx C,Acc];exact⟨(P,_),⟨_,c,rfl,d,a,by omega⟩,rfl⟩
   ·rw[Ack C,Acd];have W:P.length=c:=a.len;have a:FI vs c P:=a;rcases uG A F H d (by omega) B.1 (l[k]).Bb with ⟨_,g⟩|⟨x,hx2,⟨_,g⟩|⟨_,j,z,hz,hj0,_,_,g⟩|⟨_,_,y,vs',o,rfl,g,a1⟩⟩
    ·rw[g,Acb];exact⟨(P,_),⟨_,c,rfl,d,a,by omega⟩,rfl⟩
    ·rw[g,Acb];exact⟨(P,_),⟨_,c,rfl,d,a,by omega⟩,rfl⟩
    ·have hj:=d.key j z hz;have X:=d.key _ x hx2;rw[g,Acb,Ack (show ¬((0:Int)≠0) by decide),Acd,Ack (show ¬(j<1) by omega),Ack (show ¬((P.length:Int)<j) by omega),Ack (show ¬((l[k]).Bb<0) by omega),Ack (show ¬((P.length:Int)≤(l[k]).Bb) by omega)];simp only[Bool.or_self,Acd];rw[Ack (show ¬(j=(P.length:Int)) by omega),Acd];exact⟨(P,_),⟨_,c,rfl,d,a,by omega⟩,rfl⟩
    ·have X:=d.key _ x hx2;have Y:=a.one;have v:(l[k]).Bb.toNat<P.length:=by omega
     obtain⟨q,m⟩:∃q,P[(l[k]).Bb.toNat]? =some q:=⟨_,Acn v⟩
     have w:ix P (l[k]).Bb=some q:=by unfold Go.Proofs.YtabonambpbofgaaGreat.ix;rw[Ace (by omega)];exact m
     have Z:=a.bd q (Adn m);rw[g,Acb,Ack (show ¬((0:Int)≠0) by decide),Acd,Ack (show ¬((c:Int)<1) by omega),Ack (show ¬((P.length:Int)<c) by omega),Ack (show ¬((l[k]).Bb<0) by omega),Ack (show ¬((P.length:Int)≤(l[k]).Bb) by omega)];simp only[Bool.or_self,Acd];rw[Acx (show((c:Int)=(P.length:Int)) by omega),Acc,w];simp only[Acb,Acs,List.length_nil];rw[F7 (by omega),F7 (by omega),F7 (by omega)];exact⟨(_,_),⟨_,c+1,rfl,a1,a.add d hx2 B.1 m,by omega⟩,rfl⟩) N 0 ([[]],some (Aab b s)) ⟨_,1,rfl,vk1 G,mR,by omega⟩ (by omega) (Aci _)
 exact⟨vs,c,P,d,a,by omega,K⟩
def Tg {N:Nat}(d:18446744073709551616<N) (g:Ff N=some true) (b:AF) (s:AI) (j:s.I.length+100000≤4000000000000) (l:List BZ):GZ N b s l=some true:=by
 unfold GZ;rw[g,Acb];obtain⟨v,o,kv⟩:=rX (N:=N) (by omega) b l;obtain⟨t,et,p⟩:=gO d b s (by omega);rw[o,Acb,et,Acb];rcases p with rfl|⟨rfl,hr,hs⟩
 ·simp
 cases v with
 |false=>rfl
 |true=>
  obtain⟨q,u,w,k⟩:=kv rfl;obtain⟨a,y,_,_⟩:=Ro d hr;have z:mT b:=⟨a,y,q,u⟩
  obtain⟨vs,c,P,D,A,m,B⟩:=eL d z hs j w (λx n=>⟨(k x n).1,(k x n).2.1⟩) (kj:=DO N b s true);simp only[Adg,Option.isNone_some,Bool.or_self,Acd];rw[B];unfold DO;rw[eJ d a.head j A D (by omega)];have C:=D.len;unfold EK JS;have i:∀{F} (x:Option F),chk (decide (vs.length≤4611686018427387904)) x=x:=λx=>by unfold chk;rw[Acx (by omega)];rfl
  rw[Acc,Acb];simp only;rw[i,Acb,Acb,Acx rfl]
def RK (b:AF) (s:AI) (a:s.I.length≤3600000000000) (l:List BZ):GZ BN b s l=some true:=Tg zY YE b s (by omega) l
open Go.ChangeShapes Go.WideShapes Go.ChangeAt Go.RowKit Go.Deep
def Fi {α}(P:Program) (t:TypeId) (r:A5 α):Prop:=
 P.cellsOf t=r.sz∧∀{H:Type} {enc:TypeId×Value→H} {w:World} {c:Nat} {a:Nat→Bool} {d:Bool} {g:Nat} {cs:List Value} {x:DataW H×List MemPlace},
  DataW.trod enc P w c a d g t cs=some x→∃y,r.rd (λb=>b<w.heap.size) w.heap cs y
def jT {n:Int}(a:(Lit.int .i64 n).wf=true):AA n:=by
 simpa [Lit.wf,IntKind.min,IntKind.max,IntKind.signed,IntKind.bits,AA] using a
def Zl {P:Program}{t:TypeId}(i:P.cellsOf t=1) (j:P.underlying t=some (.int .i64)):Fi P t AB:=by
 refine⟨i,λ{H enc w d b g a cs x} o=>?_⟩;cases a with
 |zero=>simp [DataW.trod] at o
 |succ n=>
  unfold DataW.trod at o;simp only[j] at o;split at o<;>simp_all;rename_i k l m;obtain⟨⟨rfl,c⟩,_⟩:=o;subst m;exact⟨l,rfl,jT c⟩
def XT {P:Program}{t:TypeId}(g:P.cellsOf t=1) (i:P.underlying t=some .bool):Fi P t A5.bool:=by
 refine⟨g,λ{H enc w c b d a cs x} j=>?_⟩;cases a with
 |zero=>simp [DataW.trod] at j
 |succ n=>
  unfold DataW.trod at j;simp only[i] at j;split at j<;>first|(exact ⟨_,rfl⟩)|simp_all
def Zk {P:Program}{t:TypeId}(g:P.cellsOf t=1) (i:P.underlying t=some .string):Fi P t A5.str:=by
 refine⟨g,λ{H enc w c b d a cs x} j=>?_⟩;cases a with
 |zero=>simp [DataW.trod] at j
 |succ n=>
  unfold DataW.trod at j;simp only[i] at j;split at j<;>simp_all;exact⟨_,rfl,j.1⟩
def SA {α}{p:Nat→α→Prop}:∀n,(∀i,i<n→∃x,p i x)→∃l:List α,l.length=n∧∀i x,l[i]? =some x→p i x
 |0,_=>⟨[],rfl,λi x j=>by simp at j⟩
 |n+1,j=>by
  obtain⟨l,b,c⟩:=SA n λi d=>j i (by omega);obtain⟨x,g⟩:=j n (by omega);refine⟨l++[x],by simp [b],λi y a=>?_⟩;rw[List.getElem?_append] at a;split at a
  ·exact c i y a
  ·rename_i d;have:i-l.length=0:=by
    have:=(Acq.1 a).1;simp at this;omega
   rw[this] at a;simp at a;subst a;have:i=n:=by omega
   subst this;exact g
def Hm {P:Program}{t e:TypeId}{α}{r:A5 α}(Q:P.cellsOf t=1) (U:P.underlying t=some (.slice e)) (A:Fi P e r) (V:Nat.blt 0 r.sz=true):Fi P t (A5.sl r):=by
 refine⟨Q,λ{H enc w J B K M cs x} h=>?_⟩;have k:0<r.sz:=(by simpa [Nat.blt] using V:1≤r.sz)
 rcases open_slice U h with ⟨rfl,_⟩|⟨a,len,cap,m,n,D,Pl,rfl,hb,hlc,hcm,hm,_,hel⟩
 ·exact⟨[],_,rfl,.inl ⟨rfl,rfl⟩⟩
 ·have W:len≤m:=by rw[hm];split<;>omega
  obtain⟨l,X,C⟩:=SA (p:=λi x=>a.spot=none∧Pt (λb=>b<w.heap.size) w.heap r (.pointer (some ⟨a.block,a.off+i*r.sz,none⟩)) x) len λi hi=>by
   obtain⟨cs',F,G⟩:=hel i (by omega);obtain⟨y,Y⟩:=A.2 G;obtain⟨_,q,Jm⟩:=World.cells?_some F;rw[A.1] at q Jm;have u:a.spot=none:=by
    obtain⟨v,I,_⟩:=hel 0 (by omega);obtain⟨_,g,c⟩:=World.cells?_some I;rw[A.1] at g c;have h0:=c 0 k;have Z:(a.add (0*r.sz)).add 0=a:=by simp [Addr.add]
    rw[Z] at h0;cases hs:a.spot with
    |none=>rfl
    |some s=>
     have:w.cell? a=none:=by
      unfold World.cell?;split
      ·simp [hs]
      ·rfl
     rw[this] at h0;have:v[0]? =some (v[0]'(by omega)):=Acn (by omega);rw[this] at h0;cases h0
   obtain⟨b,o,s⟩:=a;simp only at u;subst u;have d:∀j,((⟨b,o,none⟩:Addr).add (i*r.sz)).add j=⟨b,o+i*r.sz+j,none⟩:=by
    intro j;have e1:(⟨b,o,none⟩:Addr).add (i*r.sz)=⟨b,o+i*r.sz,none⟩:=by unfold Addr.add;split<;>simp_all
    rw[e1];unfold Addr.add;split<;>simp_all
   have z:b<w.heap.size:=by
    have h0:=Jm 0 k;rw[d] at h0;have:cs'[0]? =some (cs'[0]'(by omega)):=Acn (by omega);rw[this] at h0;exact World.block_lt_of_cell? w _ h0
   refine⟨y,rfl,cs',⟨⟨b,o+i*r.sz,none⟩,rfl,rfl,z,λj hj=>?_⟩,Y⟩;have:=Jm j (by omega);rw[d] at this;exact this
  exact⟨l,_,rfl,.inr ⟨a,cap,by rw[X],by omega,hcm,C⟩⟩
def WU {P:Program}{t:TypeId}{l:Array Field}(q:P.underlying t=some (.struct l)) {H:Type}{enc:TypeId×Value→H}{w:World}{c:Nat}{a:Nat→Bool}{d:Bool}{g:Nat}{cs:List Value}{x:DataW H×List MemPlace}
  (v:DataW.trod enc P w c a d g t cs=some x):cs.length=P.cellsOf t∧∀(j:Nat) (f:Field) {z} (r:A5 z),l[j]? =some f→Fi P f.type r→∃y,r.rd (λb=>b<w.heap.size) w.heap ((cs.drop f.offset).take r.sz) y:=by
 obtain⟨xs,n,_,_,s,i,u⟩:=DataW.trod_struct q v;refine⟨s,λj f z r m o=>?_⟩;have p:=u j f m;have k:j<xs.length:=by rw[i];exact(Ade.1 m).1
 rw[Acn k,o.1] at p;exact o.2 p
def oI {S h c}(k:∃y,AB.rd S h [c] y):∃y,c= .int .i64 y∧AA y:=by obtain⟨y,e,r⟩:=k;exact⟨y,(List.cons.inj e).1,r⟩
def oT {S h c}(k:∃y,A5.str.rd S h [c] y):∃y,c= .string y∧y.size≤maxLen:=by obtain⟨y,e,r⟩:=k;exact⟨y,(List.cons.inj e).1,r⟩
def oB {S h c}(k:∃y,A5.bool.rd S h [c] y):∃y,c= .bool y:=by obtain⟨y,e⟩:=k;exact⟨y,(List.cons.inj e).1⟩
def oS {α S h c}{r:A5 α}(k:∃y,(A5.sl r).rd S h [c] y):∃y,Sl S h r c y:=by obtain⟨y,w,e,k⟩:=k;cases e;exact⟨y,k⟩
def LS {P:Program}{t:TypeId}{a:Array Field}{g}{r:A5 g}(d:P.underlying t=some (.struct a)) (c:P.cellsOf t=r.sz)
  (H:∀{w:World} {cs:List Value},cs.length=r.sz→(∀(j:Nat) (f:Field) {g} (r:A5 g),a[j]? =some f→Fi P f.type r→∃y,r.rd (λb=>b<w.heap.size) w.heap ((cs.drop f.offset).take r.sz) y)→
   ∃y,r.rd (λb=>b<w.heap.size) w.heap cs y):Fi P t r:=
 ⟨c,λ{_ _ _ _ _ _ _ _ _} i=>by have q:=WU d i;exact H (q.1.trans c) q.2⟩
def gP {P:Program}{t:TypeId}{l:Array Field}{α}{r:A5 α}(m:Fi P t r) (i:r.ag=true) (n:P.underlying t=some (.struct l)) {H:Type}{enc:TypeId×Value→H}{w:World}{j:Reach}{o c:Nat}{a:Nat→Bool}{g:Bool}{v:Value}{d:DataW H}{p:List MemPlace}
  (q:Value.okWide P w j o t v) (x:DataW.Trod enc P w c a g t v d p):∃y,Rd (λb=>b<w.heap.size) w.heap r v y:=by
 obtain⟨cs,rfl,_⟩:=okWide_struct n q;obtain⟨k,s⟩:=x;obtain⟨y,u⟩:=m.2 s;exact⟨y,cs.toList,by simp [A5.val,i],u⟩
def Zy {v:Value}{c:Value}(b:v.cells.toList=[c]) (a:c.oneCell'=true):v=c∨∃cs,v= .agg cs:=by
 cases v<;>first|(right;exact⟨_,rfl⟩)|(left;simpa [Value.cells] using b)
def lG {P:Program}{t:TypeId}{α}{r:A5 α}(u:Fi P t r) (m:r.ag=false) (n:r.sz=1) {H:Type}{enc:TypeId×Value→H}{w:World}{g:Nat}{a:Nat→Bool}{i:Bool}{v:Value}{d:DataW H}{p:List MemPlace}
  (o:∀cs,v≠ .agg cs) (z:DataW.Trod enc P w g a i t v d p):∃y,Rd (λb=>b<w.heap.size) w.heap r v y:=by
 obtain⟨q,x⟩:=z;obtain⟨y,l⟩:=u.2 x;have s:=r.len l;rw[n] at s
 match j:v.cells.toList,s with
 |[c],_=>
  rw[j] at l;have k:=r.one l c (by simp);rcases Zy j k with rfl|⟨cs,rfl⟩
  ·exact⟨y,[v],by simp [A5.val,m],l⟩
  ·exact absurd rfl (o cs)
def dE {P:Program}{t e:TypeId}(b:P.underlying t=some (.slice e)) {w:World}{a:Reach}{c:Nat}{v:Value}(d:Value.okWide P w a c t v):∀cs,v≠ .agg cs:=by
 rintro cs rfl;simp [Value.okWide,b,Cell.okWide,Cell.ok] at d
def P9 {H:Type}{enc:TypeId×Value→H}{P:Program}(l:laidOutB P=true) {W m:World}(n:Below W.heap.size W m):
  ∀{j:List TypeId} {vs:List Value} {ds:List (DataW H)} {b:List MemPlace},(∀t∈j,P.readableRec t=true∧t<P.types.size)→DataW.TrodAll enc P W 0 (λ_=>true) true j vs ds b→(∀x∈b,x.block<W.heap.size)→
   ∀c:Nat→Bool,(∀x∈b,c x.block=true)→DataW.TrodAll enc P m 0 c true j vs ds b
 |[],vs,ds,b,_,B,_,c,_=>by
  obtain⟨rfl,rfl,rfl⟩:=trodAll_nil B;exact rfl
 |t::j,vs,ds,b,o,B,g,c,i=>by
  obtain⟨v,s,d,u,p,q,rfl,rfl,rfl,w,y⟩:=trodAll_cons B;obtain⟨z,A⟩:=o t (by simp);refine⟨p,q,WideElems.Trod_stays l z A w (λx a=>n.same (g x (by simp [a]))) (λx a=>i x (by simp [a])),?_,rfl⟩;exact P9 l n (λt k=>o t (by simp [k])) y (λx a=>g x (by simp [a])) c λx a=>i x (by simp [a])
def dO {H:Type}{enc:TypeId×Value→H}{P:Program}{f:Func}{s:ChangeSpec}{W k:World}{c:Array Value}{ds g:List (DataW H)}{a:List MemPlace}{tb:TypeId}
  (o:laidOutB P=true) (i:f.params.toList.all (λt=>P.readableRec t&&decide (t<P.types.size))=true) (j:DataW.Whole enc P f.params.toList s.vars false W c.toList ds g a)
  (q:f.resultTypes= #[tb]) (u:P.underlying tb=some .bool) (b:s.vars=[]) (v:(s.fn H (ds++g)).results=[.lit (.bool true)]) (w:(s.fn H (ds++g)).args=ds) (y:(s.fn H (ds++g)).vars=[])
  (l:Below W.heap.size W k):s.post enc P f false true false false W c (.bool true) k:=by
 have d:∀p∈a,p.block<W.heap.size:=λp z=>j.lt p z;obtain⟨m,pv,A,n,rfl,D,F⟩:=id j;rw[b] at n;obtain⟨rfl,rfl⟩:=trodVars_none n;simp only[Adr] at*;refine⟨ds,[],m,[],m,[],by simpa using j,?_,?_,?_,?_,λG=>by cases G⟩
 ·simp only[Adr];rw[v,q];exact trodAll_mk1 (shut_bool u true)
 ·simp only[Adr];rw[w];refine P9 o l (λt B=>?_) A d _ λx C=>by simpa using d x C
  have:=Acm.1 i t B;simpa using this
 ·simp only[Adr];rw[y,b];exact rfl
 ·exact l.frame _
def Zp {P:Program}{f:FuncId}{a:Array Value}{W:World}{L:(Nat→Prop)→AS→Prop}(k:CL P f a (λb=>b<W.heap.size) W.heap (λv S' h'=>v= .bool true∧L S' h')):
  Calls P f a W λe d=>e= .returned (.bool true)∧Below W.heap.size W d:=
 (k W W ⟨rfl,rfl,rfl,rfl⟩).mono λe d ⟨v,S',h',i,c,g,j,_⟩=>by
  subst i;subst j;exact⟨rfl,c.os,c.tape,c.out,by rw[c.heap];exact g.siz,λb l=>by rw[c.heap];exact g.same b l⟩
open Go.ChangeShapes Go.WideShapes Go.ChangeAt Go.RowKit
namespace bfolds
theorem bfolds_n:Tryz.pinned.checked.prog.funcNamed Rows.branchFoldsRow.func=some 6:=by kernel_rfl
set_option maxHeartbeats 20000000 in
theorem bfolds_j:joinedFacts Tryz.pinned.checked.prog 6 Tryz.f6 Rows.branchFoldsSpec Rows.branchFoldsRow=true:=by
 unfold joinedFacts
 iterate 31 refine Bool.and_eq_true_iff.2 ⟨?_,?_⟩
 all_goals as_aux_lemma=>kernel_rfl
end bfolds
section
variable {H:Type}{enc:TypeId×Value→H}{P:Program}{w:World}{base:Nat}{spare:Nat→Bool}{held:Bool}
def Ur:∀{l:List TypeId}{ds:List (DataW H)}{j:Nat}{t:TypeId}{d:DataW H},l[j]? =some t→ds[j]? =some d→∀q∈d.weights P t,q∈DataW.weightsEach P l ds
 |[],_,j,t,d,i,_=>by cases j<;>cases i
 |_::_,[],j,t,d,_,i=>by cases j<;>cases i
 |a::l,x::ds,0,t,d,b,c=>λq g=>by
  cases b;cases c;simp only[DataW.weightsEach];exact Aef _ g
 |a::l,x::ds,j+1,t,d,b,c=>λq g=>by
  simp only[DataW.weightsEach];exact Afm _ (Ur (l:=l) (ds:=ds) (j:=j) b c q g)
def vZ {R:Nat}{t e:TypeId}(d:P.underlying t=some (.slice e)) {b:Nat}{a:Option Addr}{len cap:Nat}{x:DataW H×List MemPlace}(j:DataW.trod enc P w base spare held b t [.slice a len cap]=some x) (g:∀q∈x.1.weights P t,q≤R):len*P.bytesOf e≤R:=by
 rcases open_slice d j with ⟨c,_⟩|⟨a',len',cap',m,n,D,Pl,c,_,_,_,_,rfl,_⟩
 ·cases c;omega
 ·cases c;simp only[DataW.weights,d] at g;have i:=g _ (Ac4 ..);rw[Ae7,List.length_range] at i;exact Adq (Ady _ (Nat.le_add_right _ _)) i
def vY {t:TypeId}{i:Array Field}(k:P.underlying t=some (.struct i)) {a:Nat}{cs:List Value}{x:DataW H×List MemPlace}(u:DataW.trod enc P w base spare held a t cs=some x) {j:Nat}{f:Field}(g:i[j]? =some f):
  ∃n y,DataW.trod enc P w base spare held n f.type ((cs.drop f.offset).take (P.cellsOf f.type))=some y∧∀q∈y.1.weights P f.type,q∈x.1.weights P t:=by
 obtain⟨xs,n,_,m,s,b,o⟩:=DataW.trod_struct k u;have l:=o j f g;have c:j<xs.length:=by rw[b];exact(Ade.1 g).1
 rw[Acn c] at l;refine⟨n,xs[j],l,λq p=>?_⟩;subst m;simp only[DataW.weights,k];refine Ur (j:=j) (t:=f.type) (d:=(xs[j]).1) ?_ ?_ q p
 ·rw[Ad4,Array.getElem?_toList,g];rfl
 ·rw[Ad4,Acn c];rfl
def gQ {R:Nat}{t:TypeId}{b:Array Field}(i:P.underlying t=some (.struct b)) {v u:Value}{d:DataW H}{p:List MemPlace}(F:DataW.Trod enc P w base spare held t v d p) (m:∀q∈d.weights P t,q≤R) {j:Nat}{f:Field}(o:b[j]? =some f) {e:TypeId}(s:P.underlying f.type=some (.slice e)) (x:P.cellsOf f.type=1)
  (z:(v.cells.toList.drop f.offset).take 1=[u]) {α} {S:Nat→Prop} {A:AS} {r:A5 α} {l:List α} (k:Sl S A r u l):l.length*P.bytesOf e≤R:=by
 obtain⟨c,B⟩:=F;obtain⟨n,y,g,C⟩:=vY i B o;obtain⟨a,cap,rfl,_⟩:=k.len;rw[x,z] at g;exact vZ s g λq D=>m q (C q D)
end
end Go.Proofs.YtabonambpbofgaaGreat
