import Derived.Test.YtabonambpbofgaaGreatKPureTr
import Derived.Test.YtabonambpbofgaaGreatKCore10
import Derived.ProofKit
import Derived.OpenShut
import Derived.JoinedCond
import Derived.Deep.Slices
import Derived.SizedLaws
namespace Go.Proofs.YtabonambpbofgaaGreat
set_option linter.all false
open Go.RowKit
def qY {N:Nat}(p:8000000000000<N) (b:AF) (l:List BS):∃v,JT N b l=some v∧(v=true→b.A.length≤6∧b.C.length≤6∧l.length≤16∧∀x∈l,Zp x.L∧x.Bn.length≤8):=by
 unfold JT;cases g:((decide (6<(b.A.length:Int))||decide (6<(b.C.length:Int)))||decide (16<(l.length:Int))) with
 |true=>exact⟨false,rfl,λF=>by cases F⟩
 |false=>
  simp only[Acd,Ab7] at g;obtain⟨⟨q,s⟩,u⟩:=g;rw[Abk];rcases NP l.length (λn i (_:Unit)=>E9 N l (HL N) n i) (λ_=>HL N) (some false) (λk _=>∀x∈l.take k,Zp x.L∧x.Bn.length≤8) (λn k t c=>by
   simp only[E9];rw[Fj c];rfl) (λn k t d c=>by
   simp only[E9];rw[FD c,Abj,BF c,Abi,A9 (by omega)];cases m:((((decide (8<((l[k]).L.T.length:Int))||decide (6<((l[k]).L.Ab.length:Int)))||decide (6<((l[k]).L.Ac.length:Int)))||decide (6<((l[k]).L.U.length:Int)))||decide (6<((l[k]).L.Ae.length:Int)))
   ·simp only[Acd,Ab7] at m;obtain⟨⟨⟨⟨w,y⟩,z⟩,B⟩,D⟩:=m;rw[Abk,Abi,Abi];by_cases o:8<((l[k]).Bn.length:Int)
    ·rw[Ab3 o];exact .inl rfl
    ·rw[Abs o];refine .inr ⟨(),λj a=>?_,rfl⟩;rw[Ac1 c] at a;rcases Acb.1 a with a|a
     ·exact d j a
     ·cases Acf.1 a;exact⟨⟨by omega,by omega,by omega,by omega,by omega⟩,by omega⟩
   ·exact .inl rfl) N 0 () (λi d=>by cases d) (by omega) (Abn _) with e|⟨_,i1,e⟩
  ·exact⟨false,e,λF=>by cases F⟩
  ·rw[Ack] at i1;exact⟨true,e,λ_=>⟨by omega,by omega,by omega,i1⟩⟩
def yY (b:AF) (s:AI):Ey:=⟨b,[(0,⟨-1,hE,s,[]⟩)],((1:Nat):Int)⟩
def fO {N:Nat}(i:18446744073709551616<N) (b:AF) (s:AI) (l:s.I.length≤4000000000000):∃t,IK N b s=some t∧(t=none∨(t=some (yY b s)∧Gx N b=some true∧Ws b s)):=by
 unfold IK;obtain⟨v,c,kv⟩:=V4 i b;cases v with
 |false=>rw[c];exact⟨none,rfl,.inl rfl⟩
 |true=>
  rw[c,Abi,Acq,Abk];obtain⟨a,p,_,_⟩:=RU i c;obtain⟨v,j,n⟩:=ZD (N:=N) (by omega) a.head a.places s l;cases v with
  |false=>rw[j];exact⟨none,rfl,.inl rfl⟩
  |true=>
   have m:=n rfl;have x:=m.rg.x;have q:=a.head.own;have o:=a.head.pl;have u:=a.head.li;have w:=x.own.len;have z:=x.rem;have A:=x.gates;have B:=x.inn;have C:=x.out;have d:8000000000000<N:=by omega
   have g:KT N b s=some (some (yY b s)):=by
    unfold KT;rw[c,Abi,Acq,Abk,j,Abi,Abi,Acq,Abk,U4 d (by omega) (λy k=>by have:=(x.own.all y k).len;omega) (by omega) l (λy k=>by have:=(x.que y k).1.len;omega) (by omega) (by omega) (by omega),Abi,U6 d a (jC i c),Abi];rfl
   rw[j,Abi,Abi,Acq,Abk,g];exact⟨_,rfl,.inr ⟨rfl,rfl,m⟩⟩
def vk1 {N:Nat}{b:AF}{s:AI}(c:Ws b s):VK N b s [(0,⟨-1,hE,s,[]⟩)] 1:=by
 have a:∀k x,Cc [(0,(⟨-1,hE,s,[]⟩:Dv))] k=some x→k=0∧x=⟨-1,hE,s,[]⟩:=λk x g=>by
  rw[Mo,Sd] at g;by_cases e:(0:Int)=k
  ·rw[Abm e] at g;cases g;exact⟨e.symm,rfl⟩
  ·rw[Abl e] at g;cases g
 refine⟨λk x g=>?_,⟨_,rfl,rfl,rfl⟩,λk x g h0=>absurd (a k x g).1 h0,λk x j g d=>?_,λk x g h0=>absurd (a k x g).1 h0,λk x g=>?_,Ab1 _⟩
 ·obtain⟨rfl,_⟩:=a k x g;omega
 ·obtain⟨_,rfl⟩:=a k x g;cases d
 ·obtain⟨rfl,rfl⟩:=a k x g;exact⟨c,by show(s.I.length:Int)≤_;omega,Abn _,⟨Abn _,Abn _,Abn _,Abn _,Abn _⟩⟩
def bH {N:Nat}(d:18446744073709551616<N) {b:AF}(a:Zs b) {s:AI}(c:Ws b s) (t:s.I.length≤4000000000000) {i:B3}(g:Zp i):∃y,He N b s i=some y:=by
 obtain⟨u,v,w,z,A⟩:=g;have j:=a.r.head.own;have k:=a.l6;have m:=a.p6;obtain⟨B,n,o,p,C⟩:=Vs (N:=N) (by omega) (b:=b) (s:=s) (in_:=i) (W:=b.H.length) (by omega) (by omega) c.rg.x.own;obtain⟨r,D,F,l,q,_⟩:=Xu d a.r.head a.r.links a.r.places c.rg.x (by omega) (in_:=i) (by omega) (by omega) (by omega) n o p;exact⟨r,q⟩
def O1 {N:Nat}(b:8000000000000<N) {a:List Int}(c:a.length≤1000):CQ N a a=some true:=by
 obtain⟨v,e,k⟩:=wQ b a a c;rw[e,k.2 rfl]
def T1 {N:Nat}(c:8000000000000<N) {b:AF}(d:IG b) {s:AI}(g:Ws b s) (o:s.I.length≤4000000000000):LE N s s=some true:=by
 have p:=d.own;have q:=d.pl;have t:=d.li;have x:=g.rg.x;have u:=x.own.len;have w:=x.rem;have y:=x.gates;have z:=x.inn;have A:=x.out;have j:Dx N s.G s.G (λx=>CQ N x.1 x.2)=some true:=by
  unfold Dx;rw[Abs (by simp),Abk];exact Lz s.G.length (λn i=>CG N s.G s.G (λx=>CQ N x.1 x.2) (Db N) n i) (some true) (λn k a=>by
   simp only[CG];rw[Fj a];rfl) (λn k a=>by
   simp only[CG];rw[FD a,Abj,BF a];simp only[Abi];rw[O1 c (by have:=(x.own.all _ (Ab2 a)).len;omega)];simp only[Abi,Acq,Abk];rw[A9 (by omega)]) N 0 (by omega) (Abn _)
 have l:BG N s.I s.I (λx=>Hc N x.1 x.2)=some true:=by
  unfold BG;rw[Abs (by simp),Abk];exact Lz s.I.length (λn i=>AO N s.I s.I (λx=>Hc N x.1 x.2) (BD N) n i) (some true) (λn k a=>by
   simp only[AO];rw[Fj a];rfl) (λn k a=>by
   simp only[AO];rw[FD a,Abj,BF a];simp only[Abi];rw[show Hc N s.I[k] s.I[k]=some true by
    unfold Hc;rw[O1 c (by have:=(x.que _ (Ab2 a)).1.len;omega)];simp]
   simp only[Abi,Acq,Abk];rw[A9 (by omega)]) N 0 (by omega) (Abn _)
 have m:C4 N s.P s.P=some true:=by
  unfold C4;rw[Abs (by simp),Abk];exact Lz s.P.length (λn i=>BP N s.P s.P (Cj N) n i) (some true) (λn k a=>by
   simp only[BP];rw[Fj a];rfl) (λn k a=>by
   simp only[BP];rw[FD a,Abj,BF a];simp only[Abi];rw[show Qt (s.P[k]).v (s.P[k]).v=true by simp [Qt,Vc],Acq,Abk,A9 (by omega)]) N 0 (by omega) (Abn _)
 unfold LE;rw[Ab3 rfl,Abj,j,Abi,Abi,Abj,O1 c (by omega),Abi,Abi,Abj,l,Abi,Abi,Abj,m,Abi,Abi,Abj,O1 c (by omega),Abi,Abi,Abj,O1 c (by omega),Abi,Abi]
def Wm (vs:List (Int×Dv)) (c:Nat):Prop:=∀k:Nat,k<c→∃x,Cc vs (k:Int)=some x
def Wm.add {vs:List (Int×Dv)}{c:Nat}(i:Wm vs c) {p:Int}{x y z:Dv}(b:Cc vs p=some x) (d:Cc vs (c:Int)=none):Wm (NK vs p y++[((c:Int),z)]) (c+1):=λk g=>by
 rw[Se b d];by_cases e:(k:Int)=c
 ·exact⟨z,Abm e⟩
 ·rw[Abl e];by_cases a:(k:Int)=p
  ·exact⟨y,Abm a⟩
  ·rw[Abl a];exact i k (by omega)
def ND (c:Nat) (a:List Bool) (P:Nat→Prop):Prop:=a.length=c∧∀j:Nat,j<c→∃v,a[j]? =some v∧(v=true↔P j)
def ND.set {c:Nat}{a:List Bool}{P:Nat→Prop}(l:ND c a P) {p:Nat}(k:p<c):ND c (upd a (p:Int) true) λj=>P j∨j=p:=by
 refine⟨by unfold upd;rw[List.length_set];exact l.1,λj b=>?_⟩;unfold upd;rw[Acs,List.getElem?_set];by_cases e:p=j
 ·rw[Abm e,Abm (by rw[l.1];omega)];exact⟨true,rfl,λ_=> .inr e.symm,λ_=>rfl⟩
 ·rw[Abl e];obtain⟨v,d,g⟩:=l.2 j b;exact⟨v,d,g.trans ⟨.inl,λi=>i.elim (λx=>x) λx=>absurd x.symm e⟩⟩
def ND.iff {c:Nat}{a:List Bool}{P Q:Nat→Prop}(k:ND c a P) (d:∀j,j<c→(P j↔Q j)):ND c a Q:=⟨k.1,λj b=>by
 obtain⟨v,g,i⟩:=k.2 j b;exact⟨v,g,i.trans (d j b)⟩⟩
def ND.ix {c:Nat}{a:List Bool}{P:Nat→Prop}(i:ND c a P) {p:Nat}(b:p<c):∃v,ix a (p:Int)=some v∧(v=true↔P p):=by
 obtain⟨v,d,g⟩:=i.2 p b;exact⟨v,by unfold Go.Proofs.YtabonambpbofgaaGreat.ix;rw[Abl (by omega),Acs];exact d,g⟩
def SF {N:Nat}{b:AF}{s:AI}{vs:List (Int×Dv)}{c:Nat}(i:VK N b s vs c):∀(m:Nat) (id k:Int),k∈Sa vs m id→(0≤k∧k<c)∧0≤id∧id<c
 |0,id,k,a=>by cases a
 |m+1,id,k,a=>by
  cases d:Cc vs id with
  |none=>rw[MB d] at a;cases a
  |some x=>
   have g:=i.key id x d;rw[Oj d] at a;rcases Abr.1 a with rfl|a
   ·exact⟨g,g⟩
   ·exact⟨(SF i m x.par k a).1,g⟩
def ZO {N:Nat}(u:18446744073709551616<N) {c:Nat}{y:List Int}(o:∀k∈y,0≤k∧k<(c:Int)) (w:y.length≤1000) {kj:List Bool→Option Bool}{a:List Bool}{P:Nat→Prop}(z:ND c a P):∃b,ND c b (λj=>P j∨(j:Int)∈y)∧C0 N y kj N 0 a=kj b:=by
 obtain⟨b,g,q⟩:=Fs y.length (λn i (a:List Bool)=>C0 N y kj n i a) kj (λk a=>ND c a λj=>P j∨(j:Int)∈y.take k) (λn k a d=>by
  simp only[C0];rw[Fj d];rfl) (λn k a l d=>by
  simp only[C0];have s:=o _ (Ab2 d);obtain⟨p,m⟩:∃p:Nat,y[k]=(p:Int):=⟨(y[k]).toNat,by omega⟩
  obtain⟨v,t,_⟩:=l.ix (p:=p) (by omega);rw[FD d,Abj,BF d];simp only[Abi];rw[m,t];simp only[Abi];rw[A9 (by omega)];refine⟨_,(l.set (p:=p) (by omega)).iff λj x=>?_,rfl⟩;rw[Ac1 d,Acb,Acf,m,or_assoc];exact or_congr Ac4 (or_congr Ac4 ⟨λe=>by omega,λe=>by omega⟩)) N 0 a (z.iff λj _=>by simp) (by omega) (Abn _)
 rw[Ack] at g;exact⟨b,g,q⟩
def ZP {N:Nat}(q:18446744073709551616<N) {b:AF}{s:AI}{vs:List (Int×Dv)}{c:Nat}(B:VK N b s vs c) (u:c≤200) {keep:List Int}(A:keep.length≤8) {cr:Int}{bf:List AI}{m:Nat}{y:AI×Int}{kj:List AI→List Bool→Option Bool}{g:List Bool}{P:Nat→Prop}(v:ND c g P):∃d,ND c d (λj=>P j∨((m:Int)∈keep∧(j:Int)∈Sa vs c m))∧Bz N keep (some ⟨b,vs,cr⟩) bf (m:Int) y kj N 0 g=kj (bf++[y.1]) d:=by
 obtain⟨d,l,p⟩:=Fs keep.length (λn i (g:List Bool)=>Bz N keep (some ⟨b,vs,cr⟩) bf (m:Int) y kj n i g) (λg=>kj (bf++[y.1]) g) (λk g=>ND c g λj=>P j∨((m:Int)∈keep.take k∧(j:Int)∈Sa vs c m)) (λn k g o=>by
  simp only[Bz];rw[Fj o];rfl) (λn k g t o=>by
  simp only[Bz];rw[FD o,Abj,BF o,Abi];by_cases e:keep[k]=(m:Int)
  ·rw[Ab3 e,Abj,iY q B u,Abi];have w:=Uc (vs:=vs) c (m:Int);obtain⟨d,x,z⟩:=ZO (N:=N) q (c:=c) (y:=(Sa vs c (m:Int)).reverse) (λj a=>(SF B c m j (List.mem_reverse.1 a)).1) (by simp;omega) (kj:=DL N (k:Int) (Bz N keep (some ⟨b,vs,cr⟩) bf (m:Int) y kj n)) t;rw[z];unfold DL;rw[A9 (by omega)];refine⟨d,x.iff λj _=>?_,rfl⟩;rw[List.mem_reverse,Ac1 o,Acb,Acf,e];constructor
   ·rintro((a|⟨_,a⟩)|a)
    ·exact .inl a
    ·exact .inr ⟨.inr rfl,a⟩
    ·exact .inr ⟨.inr rfl,a⟩
   ·rintro(a|⟨_,a⟩)
    ·exact .inl (.inl a)
    ·exact .inr a
  ·rw[Abs e,Abk];unfold DL;rw[A9 (by omega)];refine⟨g,t.iff λj _=>?_,rfl⟩;rw[Ac1 o,Acb,Acf];constructor
   ·rintro(a|⟨l,p⟩)
    ·exact .inl a
    ·exact .inr ⟨.inl l,p⟩
   ·rintro(a|⟨l|l,p⟩)
    ·exact .inl a
    ·exact .inr ⟨l,p⟩
    ·exact absurd l.symm e) N 0 g (v.iff λj _=>by simp) (by omega) (Abn _)
 rw[Ack] at l;exact⟨d,l,p⟩
def ZQ {N:Nat}(v:18446744073709551616<N) {b:AF}{s:AI}{vs:List (Int×Dv)}{c:Nat}(M:VK N b s vs c) (w:Wm vs c) (A:c≤200) {keep:List Int}(B:keep.length≤8) {cr:Int}{kj:List AI→List Bool→Option Bool}{p:List Bool}(C:ND c p λj=>j=0):∃bf d,bf.length=c∧(∀j:Nat,j<c→∃x,Cc vs (j:Int)=some x∧bf[j]? =some x.st)∧ND c d (λj=>j=0∨∃id∈keep,(j:Int)∈Sa vs c id)∧BV N keep (some ⟨b,vs,cr⟩) ((c:Int)-1) kj N [] 0 p=kj bf d:=by
 obtain⟨⟨bf,d⟩,⟨a,o,g⟩,D⟩:=Fs c (λn i (z:List AI×List Bool)=>BV N keep (some ⟨b,vs,cr⟩) ((c:Int)-1) kj n z.1 i z.2) (λz=>kj z.1 z.2) (λk z=>z.1.length=k∧(∀j:Nat,j<k→∃x,Cc vs (j:Int)=some x∧z.1[j]? =some x.st)∧ND c z.2 (λj=>j=0∨∃id∈keep,id<(k:Int)∧(j:Int)∈Sa vs c id)) (λn k z q=>by
  simp only[BV];rw[Abs (by omega)];rfl) (λn k z F q=>by
  obtain⟨t,G,H⟩:=F;obtain⟨x,u⟩:=w k q;simp only[BV];rw[Ab3 (by omega),Abj,YZ,u,Abi];simp only[ne_eq,not_true_eq_false,decide_false,Abk];rw[GZ (by omega)];obtain⟨d,I,J⟩:=ZP (N:=N) v M A B (cr:=cr) (bf:=z.1) (m:=k) (y:=(x.st,0)) (kj:=DM N (k:Int) (BV N keep (some ⟨b,vs,cr⟩) ((c:Int)-1) kj n)) H;rw[J];unfold DM;rw[A9 (by omega)];refine⟨(z.1++[x.st],d),⟨by simp [t],λj l=>?_,I.iff λj _=>?_⟩,rfl⟩
  ·by_cases e:j<k
   ·obtain⟨K,a,o⟩:=G j e;exact⟨K,a,by rw[Ae2 (by omega)];exact o⟩
   ·obtain rfl:j=k:=by omega
    exact⟨x,u,by rw[Ae3 (by omega),t];simp⟩
  ·constructor
   ·rintro((l|⟨id,a,o,g⟩)|⟨a,o⟩)
    ·exact .inl l
    ·exact .inr ⟨id,a,by omega,g⟩
    ·exact .inr ⟨_,a,by omega,o⟩
   ·rintro(l|⟨id,a,o,g⟩)
    ·exact .inl (.inl l)
    ·by_cases e:id=(k:Int)
     ·subst e;exact .inr ⟨a,g⟩
     ·exact .inl (.inr ⟨id,a,by omega,g⟩)) N 0 ([],p) ⟨rfl,λj l=>by omega,C.iff λj _=>⟨.inl,λl=>l.elim (λx=>x) λ⟨id,_,o,g⟩=>by
   have:=(SF M c id j g).2;omega⟩⟩ (by omega) (Abn _)
 refine⟨bf,d,a,o,g.iff λj _=>?_,D⟩;constructor
 ·rintro(l|⟨id,a,_,g⟩)
  ·exact .inl l
  ·exact .inr ⟨id,a,g⟩
 ·rintro(l|⟨id,a,g⟩)
  ·exact .inl l
  ·exact .inr ⟨id,a,(SF M c id j g).2.2,g⟩
def ZR {N:Nat}(B:18446744073709551616<N) {b:AF}(C:Zs b) {s:AI}(D:Ws b s) (F:s.I.length+100000≤4000000000000) {l:List BS}(U:l.length≤16) (v:∀x∈l,Zp x.L) {kj:Option Ey→Option Bool}:∃vs c,VK N b s vs c∧Wm vs c∧1≤c∧c≤17∧B0 N l kj N 0 (some (yY b s))=kj (some ⟨b,vs,(c:Int)⟩):=by
 obtain⟨t,⟨vs,c,rfl,m,p,q,G⟩,H⟩:=Fs l.length (λn i (t:Option Ey)=>B0 N l kj n i t) kj (λk t=>∃vs c,t=some ⟨b,vs,((c:Nat):Int)⟩∧VK N b s vs c∧Wm vs c∧1≤c∧c≤k+1) (λn k t u=>by
  simp only[B0];rw[Fj u];rfl) (λn k t J u=>by
  obtain⟨vs,c,rfl,m,p,q,G⟩:=J;simp only[B0];rw[FD u,Abj,BF u];simp only[Abi];by_cases e:I5 .and .i64 (l[k]).Bk 7<6
  ·rw[Ab3 e,Abj];have d:∀(a:List (Int×Dv)) (c':Nat) (x y:Int),Cz N (some ⟨b,vs,(c:Int)⟩) (l[k]).Bi (l[k]).L=some (x,y,some ⟨b,a,(c':Int)⟩)→VK N b s a c'→Wm a c'→1≤c'→c'≤k+2→∃t',(∃vs c,t'=some ⟨b,vs,((c:Nat):Int)⟩∧VK N b s vs c∧Wm vs c∧1≤c∧c≤k+1+1)∧((Cz N (some ⟨b,vs,(c:Int)⟩) (l[k]).Bi (l[k]).L).bind λw=>Dq N (k:Int) (B0 N l kj n) w.2.2)=B0 N l kj n ((k+1:Nat):Int) t':=λa c' x y g A K M Q=>by
    rw[g,Abi];unfold Dq;rw[A9 (by omega)];exact⟨_,⟨a,c',rfl,A,K,M,Q⟩,rfl⟩
   rcases fT B C F m (by omega) (v _ (Ab2 u)) (l[k]).Bi with ⟨_,g⟩|⟨x,hx,⟨_,g⟩|⟨_,j,z,_,_,_,_,g⟩|⟨_,_,y,a,o,rfl,g,A⟩⟩
   ·exact d _ _ _ _ g m p q (by omega)
   ·exact d _ _ _ _ g m p q (by omega)
   ·exact d _ _ _ _ g m p q (by omega)
   ·exact d _ _ _ _ g A (p.add hx (m.big (Acj _))) (by omega) (by omega)
  ·rw[Abs e,Abk];unfold Dq;rw[A9 (by omega)];exact⟨_,⟨vs,c,rfl,m,p,q,by omega⟩,rfl⟩) N 0 (some (yY b s)) ⟨_,1,rfl,vk1 D,λk u=>⟨⟨-1,hE,s,[]⟩,(show k=0 by omega)▸rfl⟩,by omega,by omega⟩ (by omega) (Abn _)
 exact⟨vs,c,m,p,q,by omega,H⟩
def W8 {N:Nat}(y:18446744073709551616<N) {b:AF}(p:IG b) {s:AI}(z:s.I.length+100000≤4000000000000) {vs:List (Int×Dv)}{c:Nat}(D:VK N b s vs c) (A:c≤200) {ks:List Int}(m:∀k∈ks,(Cc vs k).isSome=true) {bf:List AI}(B:bf.length=c) (q:∀j:Nat,j<c→∃x,Cc vs (j:Int)=some x∧bf[j]? =some x.st) {a:List Bool}(t:ND c a λj=>(j:Int)∈ks) {cr:Int}{kj:Option Bool}:Cm N ((c:Int)-1) bf a (some ⟨b,Lm vs ks,cr⟩) kj N 0=kj:=by
 exact Lz c (λn i=>Cm N ((c:Int)-1) bf a (some ⟨b,Lm vs ks,cr⟩) kj n i) kj (λn k d=>by
  simp only[Cm];rw[Abs (by omega)];rfl) (λn k d=>by
  simp only[Cm];obtain⟨x,o,g⟩:=q k d;obtain⟨v,u,kv⟩:=t.ix d;obtain⟨w,C,_⟩:=D.ql k x o;have l:ix bf (k:Int)=some x.st:=by unfold Go.Proofs.YtabonambpbofgaaGreat.ix;rw[Abl (by omega),Acs];exact g
  rw[Ab3 (by omega),Abj,YZ,RC,o,u,A9 (by omega)];by_cases e:(k:Int)∈ks
  ·rw[Abm e,kv.2 e];simp only[Adl,Abi];rw[l];simp only[Abi];rw[show (ZG ks x).st=x.st from rfl,T1 (by omega) p w (by omega)];rfl
  ·rw[Abl e];obtain rfl:v=false:=by
    cases v with
    |false=>rfl
    |true=>exact absurd (kv.1 rfl) e
   rfl) N 0 (by omega) (Abn _)
def ZS {N:Nat}(v:18446744073709551616<N) {b:AF}(t:Zs b) {s:AI}(G:Ws b s) (H:s.I.length+100000≤4000000000000) {vs:List (Int×Dv)}{c:Nat}(h:VK N b s vs c) (J:c≤200):DK N b s true (some ⟨b,vs,(c:Int)⟩)=some true:=by
 unfold DK;have A:Zp (⟨[],[],[],[],[]⟩:B3):=⟨Abn _,Abn _,Abn _,Abn _,Abn _⟩
 obtain⟨U,g,V,l⟩:=h.root;obtain⟨y,q⟩:=bH v t G (by omega) A;have d:∀(k:Int) (a:List (Int×Dv)) (cr:Int) (z:Dv),Cz N (some ⟨b,vs,(c:Int)⟩) 0 ⟨[],[],[],[],[]⟩=some (k,0,some ⟨b,a,cr⟩)→Cc a k=some z→z.st=y.1→Ws b y.1→y.1.I.length≤4000000000000→s.B≠16777216→DK N b s true (some ⟨b,vs,(c:Int)⟩)=some true:=λk a cr z i m u K j n=>by
  unfold DK;rw[i,Abi,YZ,m,Abi,q,Abi,Abs n,Abk];simp only[u];rw[T1 (by omega) t.r.head K j];rfl
 rcases fT v t H h J A 0 with ⟨C,_⟩|⟨x,hx,⟨n,i⟩|⟨n,k,z,m,hk0,hzp,hzi,i⟩|⟨n,_,y2,a,o,rfl,i,a1⟩⟩
 ·rw[g] at C;cases C
 ·rw[hx] at g;cases g;rw[l] at n;rw[i,Abi,YZ,hx,Abi,q,Abi,Ab3 n];rfl
 ·rw[hx] at g;cases g;obtain⟨w,W,X,Y,Z,D,M⟩:=h.node k z m hk0;rw[hzp,hx] at D;cases D;obtain⟨Q,m2,_⟩:=h.ql k z m;have F:=h.key k z m;have p:=M.er;rw[l,hzi,q] at p;cases p;exact d k vs c z i m rfl Q (by show z.st.I.length≤_;omega) (by rw[←l];omega)
 ·rw[hx] at g;cases g;have p:=o.er;rw[l,q] at p;cases p;have j:=o.ql;rw[l] at j;exact d c _ _ _ i (by rw[Se hx (h.big (Acj _)),Abm rfl]) rfl o.rg (by omega) (by rw[←l];omega)
def R9 {N:Nat}(a:18446744073709551616<N) (g:Fb N=some true) (b:AF) (s:AI) (i:s.I.length+100000≤4000000000000) (l:List BS) (keep:List Int):GE N b s l keep=some true:=by
 unfold GE;rw[g,Abi];obtain⟨v,u,kv⟩:=qY (N:=N) (by omega) b l;obtain⟨t,et,w⟩:=fO a b s (by omega);rw[u,Abi,et,Abi];rcases w with rfl|⟨rfl,hr,hs⟩
 ·simp
 cases v with
 |false=>rfl
 |true=>
  obtain⟨y,z,A,B⟩:=kv rfl;cases C:decide (8<(keep.length:Int)) with
  |true=>rfl
  |false=>
   have D:=Aev C;obtain⟨d,F,_,_⟩:=RU a hr;have o:Zs b:=⟨d,F,y,z⟩
   obtain⟨vs,c,h,G,H,q,J⟩:=ZR a o hs i A (λx K=>(B x K).1) (kj:=Dr N b s keep true);simp only[Acq,Option.isNone_some,Bool.or_self,Abk];rw[J];unfold Dr It;rw[Abi,Abi];have M:(max 0 (BQ ((c:Int)-1)):Int)=(c:Int)-1:=by rw[ER (n:=(c:Int)-1) (by omega) (by omega)];omega
   simp only[M];rw[show BQ ((c:Int)-1+1)=(c:Int) by rw[ER (n:=(c:Int)-1+1) (by omega) (by omega)];omega,Kz (by omega) _ (by decide),Acs];have k:ix (List.replicate c false) 0=some false:=by unfold Go.Proofs.YtabonambpbofgaaGreat.ix;rw[Abl (by omega),Adv,Abm (show Int.toNat 0<c by show 0<c;omega)]
   rw[k,Abi,Abi];have m:ND c (upd (List.replicate c false) 0 true) λj=>j=0:=by
    have:ND c (List.replicate c false) λ_=>False:=⟨by simp,λj Q=>⟨false,by simp [Q],by simp⟩⟩
    exact(this.set (p:=0) (by omega)).iff λj _=>by simp
   obtain⟨bf,nd,U,V,W,X⟩:=ZQ a h G (by omega) (keep:=keep) (by omega) (cr:=(c:Int)) (kj:=CU N b s keep true (some ⟨b,vs,(c:Int)⟩) ((c:Int)-1)) m;rw[X];unfold CU;obtain⟨ks,Y,Z,k2,k3⟩:=cK a h (by omega) (keep:=keep) (by omega) (c:Int);rw[Y,Abi,W8 a d.head i h (by omega) Z.2.1 U V (W.iff λj _=>by rw[k3];exact or_congr (by omega) Ac4)];exact ZS a o hs i k2 (by omega)
def Xv:Fb BN=some true:=by decide +kernel
def QO (b:AF) (s:AI) (a:s.I.length≤3600000000000) (l:List BS) (keep:List Int):GE BN b s l keep=some true:=R9 yV Xv b s (by omega) l keep
open Go.ChangeShapes Go.WideShapes Go.ChangeAt Go.RowKit Go.Deep
def Ff {α}(P:Program) (t:TypeId) (r:A7 α):Prop:=
 P.cellsOf t=r.sz∧∀{H:Type} {enc:TypeId×Value→H} {w:World} {c:Nat} {a:Nat→Bool} {d:Bool} {g:Nat} {cs:List Value} {x:DataW H×List MemPlace},
  DataW.trod enc P w c a d g t cs=some x→∃y,r.rd (λb=>b<w.heap.size) w.heap cs y
def jB {n:Int}(a:(Lit.int .i64 n).wf=true):AA n:=by
 simpa [Lit.wf,IntKind.min,IntKind.max,IntKind.signed,IntKind.bits,AA] using a
def ZX {P:Program}{t:TypeId}(i:P.cellsOf t=1) (j:P.underlying t=some (.int .i64)):Ff P t AB:=by
 refine⟨i,λ{H enc w d b g a cs x} o=>?_⟩;cases a with
 |zero=>simp [DataW.trod] at o
 |succ n=>
  unfold DataW.trod at o;simp only[j] at o;split at o<;>simp_all;rename_i k l m;obtain⟨⟨rfl,c⟩,_⟩:=o;subst m;exact⟨l,rfl,jB c⟩
def XA {P:Program}{t:TypeId}(g:P.cellsOf t=1) (i:P.underlying t=some .bool):Ff P t A7.bool:=by
 refine⟨g,λ{H enc w c b d a cs x} j=>?_⟩;cases a with
 |zero=>simp [DataW.trod] at j
 |succ n=>
  unfold DataW.trod at j;simp only[i] at j;split at j<;>first|(exact ⟨_,rfl⟩)|simp_all
def ZW {P:Program}{t:TypeId}(g:P.cellsOf t=1) (i:P.underlying t=some .string):Ff P t A7.str:=by
 refine⟨g,λ{H enc w c b d a cs x} j=>?_⟩;cases a with
 |zero=>simp [DataW.trod] at j
 |succ n=>
  unfold DataW.trod at j;simp only[i] at j;split at j<;>simp_all;exact⟨_,rfl,j.1⟩
def Rn {α}{p:Nat→α→Prop}:∀n,(∀i,i<n→∃x,p i x)→∃l:List α,l.length=n∧∀i x,l[i]? =some x→p i x
 |0,_=>⟨[],rfl,λi x j=>by simp at j⟩
 |n+1,j=>by
  obtain⟨l,b,c⟩:=Rn n λi d=>j i (by omega);obtain⟨x,g⟩:=j n (by omega);refine⟨l++[x],by simp [b],λi y a=>?_⟩;rw[List.getElem?_append] at a;split at a
  ·exact c i y a
  ·rename_i d;have:i-l.length=0:=by
    have:=(Aby.1 a).1;simp at this;omega
   rw[this] at a;simp at a;subst a;have:i=n:=by omega
   subst this;exact g
def Hl {P:Program}{t e:TypeId}{α}{r:A7 α}(Q:P.cellsOf t=1) (U:P.underlying t=some (.slice e)) (A:Ff P e r) (V:Nat.blt 0 r.sz=true):Ff P t (A7.sl r):=by
 refine⟨Q,λ{H enc w J B K M cs x} h=>?_⟩;have k:0<r.sz:=(by simpa [Nat.blt] using V:1≤r.sz)
 rcases open_slice U h with ⟨rfl,_⟩|⟨a,len,cap,m,n,D,Pl,rfl,hb,hlc,hcm,hm,_,hel⟩
 ·exact⟨[],_,rfl,.inl ⟨rfl,rfl⟩⟩
 ·have W:len≤m:=by rw[hm];split<;>omega
  obtain⟨l,X,C⟩:=Rn (p:=λi x=>a.spot=none∧Pt (λb=>b<w.heap.size) w.heap r (.pointer (some ⟨a.block,a.off+i*r.sz,none⟩)) x) len λi hi=>by
   obtain⟨cs',F,G⟩:=hel i (by omega);obtain⟨y,Y⟩:=A.2 G;obtain⟨_,q,Ji⟩:=World.cells?_some F;rw[A.1] at q Ji;have u:a.spot=none:=by
    obtain⟨v,I,_⟩:=hel 0 (by omega);obtain⟨_,g,c⟩:=World.cells?_some I;rw[A.1] at g c;have h0:=c 0 k;have Z:(a.add (0*r.sz)).add 0=a:=by simp [Addr.add]
    rw[Z] at h0;cases hs:a.spot with
    |none=>rfl
    |some s=>
     have:w.cell? a=none:=by
      unfold World.cell?;split
      ·simp [hs]
      ·rfl
     rw[this] at h0;have:v[0]? =some (v[0]'(by omega)):=Abw (by omega);rw[this] at h0;cases h0
   obtain⟨b,o,s⟩:=a;simp only at u;subst u;have d:∀j,((⟨b,o,none⟩:Addr).add (i*r.sz)).add j=⟨b,o+i*r.sz+j,none⟩:=by
    intro j;have e1:(⟨b,o,none⟩:Addr).add (i*r.sz)=⟨b,o+i*r.sz,none⟩:=by unfold Addr.add;split<;>simp_all
    rw[e1];unfold Addr.add;split<;>simp_all
   have z:b<w.heap.size:=by
    have h0:=Ji 0 k;rw[d] at h0;have:cs'[0]? =some (cs'[0]'(by omega)):=Abw (by omega);rw[this] at h0;exact World.block_lt_of_cell? w _ h0
   refine⟨y,rfl,cs',⟨⟨b,o+i*r.sz,none⟩,rfl,rfl,z,λj hj=>?_⟩,Y⟩;have:=Ji j (by omega);rw[d] at this;exact this
  exact⟨l,_,rfl,.inr ⟨a,cap,by rw[X],by omega,hcm,C⟩⟩
def WD {P:Program}{t:TypeId}{l:Array Field}(q:P.underlying t=some (.struct l)) {H:Type}{enc:TypeId×Value→H}{w:World}{c:Nat}{a:Nat→Bool}{d:Bool}{g:Nat}{cs:List Value}{x:DataW H×List MemPlace}
  (v:DataW.trod enc P w c a d g t cs=some x):cs.length=P.cellsOf t∧∀(j:Nat) (f:Field) {z} (r:A7 z),l[j]? =some f→Ff P f.type r→∃y,r.rd (λb=>b<w.heap.size) w.heap ((cs.drop f.offset).take r.sz) y:=by
 obtain⟨xs,n,_,_,s,i,u⟩:=DataW.trod_struct q v;refine⟨s,λj f z r m o=>?_⟩;have p:=u j f m;have k:j<xs.length:=by rw[i];exact(Acl.1 m).1
 rw[Abw k,o.1] at p;exact o.2 p
def oI {S h c}(k:∃y,AB.rd S h [c] y):∃y,c= .int .i64 y∧AA y:=by obtain⟨y,e,r⟩:=k;exact⟨y,(List.cons.inj e).1,r⟩
def oT {S h c}(k:∃y,A7.str.rd S h [c] y):∃y,c= .string y∧y.size≤maxLen:=by obtain⟨y,e,r⟩:=k;exact⟨y,(List.cons.inj e).1,r⟩
def oB {S h c}(k:∃y,A7.bool.rd S h [c] y):∃y,c= .bool y:=by obtain⟨y,e⟩:=k;exact⟨y,(List.cons.inj e).1⟩
def oS {α S h c}{r:A7 α}(k:∃y,(A7.sl r).rd S h [c] y):∃y,Sl S h r c y:=by obtain⟨y,w,e,k⟩:=k;cases e;exact⟨y,k⟩
def LO {P:Program}{t:TypeId}{a:Array Field}{g}{r:A7 g}(d:P.underlying t=some (.struct a)) (c:P.cellsOf t=r.sz)
  (H:∀{w:World} {cs:List Value},cs.length=r.sz→(∀(j:Nat) (f:Field) {g} (r:A7 g),a[j]? =some f→Ff P f.type r→∃y,r.rd (λb=>b<w.heap.size) w.heap ((cs.drop f.offset).take r.sz) y)→
   ∃y,r.rd (λb=>b<w.heap.size) w.heap cs y):Ff P t r:=
 ⟨c,λ{_ _ _ _ _ _ _ _ _} i=>by have q:=WD d i;exact H (q.1.trans c) q.2⟩
def fP {P:Program}{t:TypeId}{l:Array Field}{α}{r:A7 α}(m:Ff P t r) (i:r.ag=true) (n:P.underlying t=some (.struct l)) {H:Type}{enc:TypeId×Value→H}{w:World}{j:Reach}{o c:Nat}{a:Nat→Bool}{g:Bool}{v:Value}{d:DataW H}{p:List MemPlace}
  (q:Value.okWide P w j o t v) (x:DataW.Trod enc P w c a g t v d p):∃y,Rd (λb=>b<w.heap.size) w.heap r v y:=by
 obtain⟨cs,rfl,_⟩:=okWide_struct n q;obtain⟨k,s⟩:=x;obtain⟨y,u⟩:=m.2 s;exact⟨y,cs.toList,by simp [A7.val,i],u⟩
def Zk {v:Value}{c:Value}(b:v.cells.toList=[c]) (a:c.oneCell'=true):v=c∨∃cs,v= .agg cs:=by
 cases v<;>first|(right;exact⟨_,rfl⟩)|(left;simpa [Value.cells] using b)
def Yb {P:Program}{t:TypeId}{α}{r:A7 α}(u:Ff P t r) (m:r.ag=false) (n:r.sz=1) {H:Type}{enc:TypeId×Value→H}{w:World}{g:Nat}{a:Nat→Bool}{i:Bool}{v:Value}{d:DataW H}{p:List MemPlace}
  (o:∀cs,v≠ .agg cs) (z:DataW.Trod enc P w g a i t v d p):∃y,Rd (λb=>b<w.heap.size) w.heap r v y:=by
 obtain⟨q,x⟩:=z;obtain⟨y,l⟩:=u.2 x;have s:=r.len l;rw[n] at s
 match j:v.cells.toList,s with
 |[c],_=>
  rw[j] at l;have k:=r.one l c (by simp);rcases Zk j k with rfl|⟨cs,rfl⟩
  ·exact⟨y,[v],by simp [A7.val,m],l⟩
  ·exact absurd rfl (o cs)
def WE {P:Program}{t e:TypeId}(b:P.underlying t=some (.slice e)) {w:World}{a:Reach}{c:Nat}{v:Value}(d:Value.okWide P w a c t v):∀cs,v≠ .agg cs:=by
 rintro cs rfl;simp [Value.okWide,b,Cell.okWide,Cell.ok] at d
def Ps {H:Type}{enc:TypeId×Value→H}{P:Program}(l:laidOutB P=true) {W m:World}(n:Below W.heap.size W m):
  ∀{j:List TypeId} {vs:List Value} {ds:List (DataW H)} {b:List MemPlace},(∀t∈j,P.readableRec t=true∧t<P.types.size)→DataW.TrodAll enc P W 0 (λ_=>true) true j vs ds b→(∀x∈b,x.block<W.heap.size)→
   ∀c:Nat→Bool,(∀x∈b,c x.block=true)→DataW.TrodAll enc P m 0 c true j vs ds b
 |[],vs,ds,b,_,B,_,c,_=>by
  obtain⟨rfl,rfl,rfl⟩:=trodAll_nil B;exact rfl
 |t::j,vs,ds,b,o,B,g,c,i=>by
  obtain⟨v,s,d,u,p,q,rfl,rfl,rfl,w,y⟩:=trodAll_cons B;obtain⟨z,A⟩:=o t (by simp);refine⟨p,q,WideElems.Trod_stays l z A w (λx a=>n.same (g x (by simp [a]))) (λx a=>i x (by simp [a])),?_,rfl⟩;exact Ps l n (λt k=>o t (by simp [k])) y (λx a=>g x (by simp [a])) c λx a=>i x (by simp [a])
def cZ {H:Type}{enc:TypeId×Value→H}{P:Program}{f:Func}{s:ChangeSpec}{W k:World}{c:Array Value}{ds g:List (DataW H)}{a:List MemPlace}{tb:TypeId}
  (o:laidOutB P=true) (i:f.params.toList.all (λt=>P.readableRec t&&decide (t<P.types.size))=true) (j:DataW.Whole enc P f.params.toList s.vars false W c.toList ds g a)
  (q:f.resultTypes= #[tb]) (u:P.underlying tb=some .bool) (b:s.vars=[]) (v:(s.fn H (ds++g)).results=[.lit (.bool true)]) (w:(s.fn H (ds++g)).args=ds) (y:(s.fn H (ds++g)).vars=[])
  (l:Below W.heap.size W k):s.post enc P f false true false false W c (.bool true) k:=by
 have d:∀p∈a,p.block<W.heap.size:=λp z=>j.lt p z;obtain⟨m,pv,A,n,rfl,D,F⟩:=id j;rw[b] at n;obtain⟨rfl,rfl⟩:=trodVars_none n;simp only[Acx] at*;refine⟨ds,[],m,[],m,[],by simpa using j,?_,?_,?_,?_,λG=>by cases G⟩
 ·simp only[Acx];rw[v,q];exact trodAll_mk1 (shut_bool u true)
 ·simp only[Acx];rw[w];refine Ps o l (λt B=>?_) A d _ λx C=>by simpa using d x C
  have:=Abt.1 i t B;simpa using this
 ·simp only[Acx];rw[y,b];exact rfl
 ·exact l.frame _
def Zb {P:Program}{f:FuncId}{a:Array Value}{W:World}{L:(Nat→Prop)→AS→Prop}(k:CM P f a (λb=>b<W.heap.size) W.heap (λv S' h'=>v= .bool true∧L S' h')):
  Calls P f a W λe d=>e= .returned (.bool true)∧Below W.heap.size W d:=
 (k W W ⟨rfl,rfl,rfl,rfl⟩).mono λe d ⟨v,S',h',i,c,g,j,_⟩=>by
  subst i;subst j;exact⟨rfl,c.os,c.tape,c.out,by rw[c.heap];exact g.siz,λb l=>by rw[c.heap];exact g.same b l⟩
open Go.ChangeShapes Go.WideShapes Go.ChangeAt Go.RowKit
namespace bprunes
theorem bprunes_n:Tryz.pinned.checked.prog.funcNamed Rows.branchPrunesRow.func=some 5:=by kernel_rfl
set_option maxHeartbeats 20000000 in
theorem bprunes_j:joinedFacts Tryz.pinned.checked.prog 5 Tryz.f5 Rows.branchPrunesSpec Rows.branchPrunesRow=true:=by
 unfold joinedFacts
 iterate 31 refine Bool.and_eq_true_iff.2 ⟨?_,?_⟩
 all_goals as_aux_lemma=>kernel_rfl
end bprunes
section
variable {H:Type}{enc:TypeId×Value→H}{P:Program}{w:World}{base:Nat}{spare:Nat→Bool}{held:Bool}
def Ua:∀{l:List TypeId}{ds:List (DataW H)}{j:Nat}{t:TypeId}{d:DataW H},l[j]? =some t→ds[j]? =some d→∀q∈d.weights P t,q∈DataW.weightsEach P l ds
 |[],_,j,t,d,i,_=>by cases j<;>cases i
 |_::_,[],j,t,d,_,i=>by cases j<;>cases i
 |a::l,x::ds,0,t,d,b,c=>λq g=>by
  cases b;cases c;simp only[DataW.weightsEach];exact Adm _ g
 |a::l,x::ds,j+1,t,d,b,c=>λq g=>by
  simp only[DataW.weightsEach];exact Aet _ (Ua (l:=l) (ds:=ds) (j:=j) b c q g)
def uS {R:Nat}{t e:TypeId}(d:P.underlying t=some (.slice e)) {b:Nat}{a:Option Addr}{len cap:Nat}{x:DataW H×List MemPlace}(j:DataW.trod enc P w base spare held b t [.slice a len cap]=some x) (g:∀q∈x.1.weights P t,q≤R):len*P.bytesOf e≤R:=by
 rcases open_slice d j with ⟨c,_⟩|⟨a',len',cap',m,n,D,Pl,c,_,_,_,_,rfl,_⟩
 ·cases c;omega
 ·cases c;simp only[DataW.weights,d] at g;have i:=g _ (Ab8 ..);rw[Aep,List.length_range] at i;exact Acw (Ac5 _ (Nat.le_add_right _ _)) i
def uR {t:TypeId}{i:Array Field}(k:P.underlying t=some (.struct i)) {a:Nat}{cs:List Value}{x:DataW H×List MemPlace}(u:DataW.trod enc P w base spare held a t cs=some x) {j:Nat}{f:Field}(g:i[j]? =some f):
  ∃n y,DataW.trod enc P w base spare held n f.type ((cs.drop f.offset).take (P.cellsOf f.type))=some y∧∀q∈y.1.weights P f.type,q∈x.1.weights P t:=by
 obtain⟨xs,n,_,m,s,b,o⟩:=DataW.trod_struct k u;have l:=o j f g;have c:j<xs.length:=by rw[b];exact(Acl.1 g).1
 rw[Abw c] at l;refine⟨n,xs[j],l,λq p=>?_⟩;subst m;simp only[DataW.weights,k];refine Ua (j:=j) (t:=f.type) (d:=(xs[j]).1) ?_ ?_ q p
 ·rw[Adc,Array.getElem?_toList,g];rfl
 ·rw[Adc,Abw c];rfl
def fQ {R:Nat}{t:TypeId}{b:Array Field}(i:P.underlying t=some (.struct b)) {v u:Value}{d:DataW H}{p:List MemPlace}(F:DataW.Trod enc P w base spare held t v d p) (m:∀q∈d.weights P t,q≤R) {j:Nat}{f:Field}(o:b[j]? =some f) {e:TypeId}(s:P.underlying f.type=some (.slice e)) (x:P.cellsOf f.type=1)
  (z:(v.cells.toList.drop f.offset).take 1=[u]) {α} {S:Nat→Prop} {A:AS} {r:A7 α} {l:List α} (k:Sl S A r u l):l.length*P.bytesOf e≤R:=by
 obtain⟨c,B⟩:=F;obtain⟨n,y,g,C⟩:=uR i B o;obtain⟨a,cap,rfl,_⟩:=k.len;rw[x,z] at g;exact uS s g λq D=>m q (C q D)
end
end Go.Proofs.YtabonambpbofgaaGreat
