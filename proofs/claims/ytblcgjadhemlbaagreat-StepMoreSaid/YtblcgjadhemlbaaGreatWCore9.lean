import Derived.Test.YtblcgjadhemlbaaGreatWPureM3
import Derived.Test.YtblcgjadhemlbaaGreatWCore8
import Derived.ProofKit
import Derived.OpenShut
import Derived.JoinedCond
import Derived.Deep.Slices
namespace Go.Proofs.YtblcgjadhemlbaaGreat
set_option linter.all false
open Go.RowKit
def YD {b:AU}(f:BL→Int):∀n,n≤b.E.length→sm (λk=>f (Lc b k)) n=((b.E.take n).map f).sum
 |0,_=>by simp [sm]
 |n+1,a=>by
  rw[LS (show n<b.E.length by omega),sm,YD f n (by omega),NJ (show n<b.E.length by omega)]
def XC {l:List Int}{p i:Nat}{v:Int}(a:p<l.length):(upd l (p:Int) v).getD i 0=if i=p then v else l.getD i 0:=by
 by_cases e:p=i
 ·subst e;rw[qR rfl,rR,F5 a];rfl
 ·rw[qP (λb=>e b.symm),rR,Hb e,rR]
def PO {a:List Int}{i:Nat}{v:Int}(b:a[i]? =some v):KX a (i:Int)=v:=by
 unfold KX
 rw[sF,rR,b];rfl
def Yd {N:Nat}(hN:18446744073709551616<N) {b:AU}(U:W2 N b) (ae:∀l∈b.E,l.C= -1∨l.C≠l.G) (o:∀l∈b.E,l.B=0→Xk (KE l.Af) (J7 N l)) {s:A7}{in_:DO}{p:Nat}(K:p<b.A.length) {x:Int}(hx:0≤x) {g:List Int}(af:s.F[p]? =some g) (ag:g.length=b.J.length) (ah:1≤b.J.length) (ao:s.O.length=b.A.length) (ai:s.F.length=b.A.length) {r r':A7×List BB×List Int}{gs gs' o2 o2' inn inn' ms ms' z Q}{V V':Int}(A:Vc N b s in_ r gs o2 inn ms z p V) (B:Vc N b ({ s with F:=upd s.F (p:Int) (Fw g (v1 b.J.length x))}:A7) in_ r' gs' o2' inn' ms' Q p V') (hV:r.2.2[p]? =some V) (t:r'.2.2[p]? =some V') (W:∀l∈b.E,l.G=(p:Int)→l.B≠3):
  (∀i,i<b.A.length→∃v,r.2.2[i]? =some v∧r'.2.2[i]? =some (v+if i=p then x else 0))∧∃q Y,r.1.F[p]? =some q∧r'.1.F[p]? =some Y∧ -(2+sm (λk=>OB (Lc b k) p) b.E.length)≤Y.sum-q.sum∧Y.sum-q.sum≤x+(2+sm (λk=>OB (Lc b k) p) b.E.length):=by
 have Z:∀i,(((upd s.F (p:Int) (Fw g (v1 b.J.length x))).map List.sum).getD i 0:Int)=(s.F.map List.sum).getD i 0+if i=p then x else 0:=λi=>by
  have e:(upd s.F (p:Int) (Fw g (v1 b.J.length x))).map List.sum=upd (s.F.map List.sum) (p:Int) (g.sum+x):=by
   unfold upd
   rw[List.map_set,I1 (by rw[ag,OF]),PH ah]
  have hg:(s.F.map List.sum).getD p 0=g.sum:=by rw[rR,sQ,af];rfl
  rw[e,XC (by rw[uB,ai];exact K)]
  by_cases y:i=p
  ·subst y;rw[qR rfl,qR rfl,hg]
  ·rw[qP y,qP y];omega
 have H:∀i,i<b.A.length→∃v,r.2.2[i]? =some v∧r'.2.2[i]? =some (v+if i=p then x else 0):=λi y=>by
  refine⟨_,A.pv i y,?_⟩
  rw[B.pv i y]
  show some (((upd s.F (p:Int) (Fw g (v1 b.J.length x))).map List.sum).getD i 0+gk in_.X i+(O6 b.J.length s.D s.M i).sum)=_
  rw[Z]
  congr 1
  omega
 refine⟨H,?_⟩
 have I:V'=V+x:=by
  obtain⟨v,m,d⟩:=H p K
  rw[hV] at m
  rw[t,qR rfl] at d
  have:=qS m
  have:=qS d
  omega
 have aa:∀(q:List Int),(∀x∈q,0≤x∧x≤1125899906842624)→∀i,0≤KX q i∧KX q i≤1125899906842624:=λq hq i=>by
  unfold KX
  rw[rR]
  cases e:q[i.toNat]? with
  |none=>exact⟨by decide,by decide⟩
  |some v=>exact hq v (sC e)
 have T:Zk b z.2.2.2 Q.2.2.2 p x:=by
  rw[←A.pk,←B.pk]
  refine⟨hx,aa _ A.pr,?_,(aa _ B.pr _).2,λi h0 y=>?_⟩
  ·rw[PO hV,PO t,I]
  ·obtain⟨j,rfl⟩:∃j:Nat,i=j:=⟨i.toNat,by omega⟩
   by_cases hj:j<b.A.length
   ·obtain⟨v,m,d⟩:=H j hj
    rw[qP (by omega)] at d
    rw[PO m,PO d];omega
   ·unfold KX
    rw[sF,rR,rR,rU (by rw[B.pl];omega),rU (by rw[A.pl];omega)]
 have aj:gs'=gs:=by
  have m:=A.eg
  have d:=B.eg
  unfold E6 at m d
  have e3:=UL N (w:=(⟨b,in_,s,([]:List BB),(List.replicate ((b.A.length:Int)).toNat (0:Int)),([]:List BD)⟩:AX)) (w':=(⟨b,in_,({ s with F:=upd s.F (p:Int) (Fw g (v1 b.J.length x))}:A7),([]:List BB),(List.replicate ((b.A.length:Int)).toNat (0:Int)),([]:List BD)⟩:AX)) rfl rfl N 0 s.P
  exact qS (d.symm.trans (e3.symm.trans m))
 have ak:=λh1 h2 h3=>Xc (N:=N) h1 h2 A.ez B.ez h3
 have hz:z.2.2.1=Q.2.2.1:=ak rfl aj.symm λl hl h3=>by
  have fr:=(U.links l hl).fr
  have al:l.G≠(p:Int):=λh=>W l hl h h3
  have a1:z.2.2.2.length=b.A.length:=by rw[←A.pk];exact A.pl
  have a2:Q.2.2.2.length=b.A.length:=by rw[←B.pk];exact B.pl
  rw[VG fr.1 (by rw[a1];exact fr.2),VG fr.1 (by rw[a2];exact fr.2),T.oth _ fr.1 al]
 have ab:p<s.O.length:=by omega
 obtain⟨q,hq,ac⟩:=A.fin _ _ (rC K) (rC ab)
 obtain⟨Y,am,a⟩:=B.fin _ _ (rC K) (rC ab)
 refine⟨q,Y,hq,am,?_⟩
 rw[←hz] at a
 have m:KX z.2.2.2 (p:Int)=V:=by rw[←A.pk];exact PO hV
 have d:KX Q.2.2.2 (p:Int)=V+x:=by rw[←B.pk,PO t,I]
 have ad:=T.lo (p:Int)
 have n:=T.hi
 rw[m] at ad ac
 rw[d] at n a
 have hm:=rH K
 obtain⟨d1,d2⟩:=dI hN U ae o A.gts T W b.E.length (qX _)
 obtain⟨c1,c2⟩:=jZ hN (pl:=b.A[p]) (U.rt0 _ hm) (U.rt _ hm) (u:=V) (v:=V+x) ad.1 (by omega) n s.O[p]
 have hS:=U.sums p _ (rC K)
 have e3:=YD (b:=b) (λl=>MY N l p) b.E.length (qX _)
 rw[rY] at e3
 rw[←e3] at hS
 have an:=tF hS hx
 rw[Int.add_mul] at an
 rw[show V+x-V=x by omega] at c2
 rw[ac,a,I]
 have ap:=(Vy (f:=λk=>OB (Lc b k) p) (c:=2) (λi=>VN _ _) b.E.length).1
 generalize Uc N b z.2.2.1 Q.2.2.2 p b.E.length=E' at*
 generalize Uc N b z.2.2.1 z.2.2.2 p b.E.length=E at*
 generalize V2 N b.A[p] (V+x) s.O[p]=R' at*
 generalize V2 N b.A[p] V s.O[p]=R at*
 omega
def aX {N:Nat}(c:18446744073709551616<N) (b:AU) (s:A7) (in_:DO):∃v,H6 N b s in_=some v∧(v=true→(s.M.length≤12∧in_.X.length≤8∧in_.Ap.length≤8∧in_.At.length≤8∧in_.Ad.length≤8∧in_.Ba.length≤8)∧GB N b=some true∧oL b s):=by
 unfold H6 JH
 cases d:(((decide (6<(b.A.length:Int))||decide (6<(b.E.length:Int)))||decide (4<(b.J.length:Int)))||decide (12<(s.M.length:Int))) with
 |true=>exact⟨_,rfl,λl=>by cases l⟩
 |false=>
  simp only[rS,rO] at d
  rw[qQ,qN]
  cases g:((((decide ((in_.X.length:Int)≤8)&&decide ((in_.Ap.length:Int)≤8))&&decide ((in_.At.length:Int)≤8))&&decide ((in_.Ad.length:Int)≤8))&&decide ((in_.Ba.length:Int)≤8)) with
  |false=>exact⟨_,rfl,λl=>by cases l⟩
  |true=>
   simp only[qT,rJ] at g
   obtain⟨v,i,kv⟩:=Qm c b
   rw[qO,i,qN,qN]
   cases v with
   |false=>exact⟨_,rfl,λl=>by cases l⟩
   |true=>
    have a:=kv rfl
    obtain⟨v,j,k⟩:=Rq (N:=N) (by omega) a.head a.places s (by omega)
    rw[qO,j,qN,qN]
    exact⟨_,rfl,λl=>⟨⟨by omega,by omega,by omega,by omega,by omega,by omega⟩,rfl,k l⟩⟩
def kX {N:Nat}(s:1000000<N) {b:AU}(t:b.A.length≤64) {p:Nat}{x:Int}(u:0≤x∧x≤1125899906842624) {r r':A7×List BB×List Int}(g:∀x∈r.2.2,0≤x∧x≤1125899906842624) (j:∀i,i<b.A.length→∃v,r.2.2[i]? =some v∧r'.2.2[i]? =some (v+if i=p then x else 0)) (c:Option Bool):Co N b (p:Int) x r r' c N 0=c:=by
 have a:∀{l:List Int} {i:Nat} {v:Int},l[i]? =some v→ix l (i:Int)=some v:=λ{l i v} y=>by
  have m:=(rB.1 y)
  rw[BR m.1,m.2]
 exact Su b.A.length (λn i=>Co N b (p:Int) x r r' c n i) c (λn k d=>by
  simp only[Co];rw[E4 d];rfl) (λn k d=>by
  obtain⟨v,o,q⟩:=j k d
  have w:=g v (sC o)
  simp only[Co,Ff]
  rw[En d,qO,BT (by omega)]
  simp only[a o,a q,qN]
  by_cases y:k=p
  ·rw[qR y,rF (show(k:Int)=(p:Int) by omega),qO,Cx (n:=v+x) (by omega) (by omega),rD (by simp),qQ]
  ·rw[qP y,rD (show ¬(k:Int)=(p:Int) by omega),qQ,Cx (n:=v+0) (by omega) (by omega),rD (by simp),qQ]) N 0 (by omega) (qW _)
def Tt {N:Nat}(t:18446744073709551616<N) (ag:Hf N=some true) (b:AU) (s:A7) (in_:DO) (Q x:Int):Gm N b s in_ Q x=some true:=by
 have a:1000000<N:=by omega
 unfold Gm
 obtain⟨v,ev,kv⟩:=aX t b s in_
 rw[ag,qN,ev,qN]
 cases hc:(((((!v)||decide (Q<0))||decide ((b.A.length:Int)≤Q))||decide (x<0))||decide (1125899906842624<x)) with
 |true=>rfl
 |false=>
  simp only[rS,rO,tP] at hc
  obtain⟨⟨⟨⟨hv,av⟩,aw⟩,ax⟩,ay⟩:=hc
  obtain⟨⟨l1,l2,l3,l4,l5,l6⟩,U,d⟩:=kv hv
  obtain⟨u,_⟩:=gR t U
  obtain⟨m,Y,_,ah⟩:=Xb t U
  have hW:=m.head.own
  have w:=m.head.own1
  have Z:=m.head.pl
  have ai:=m.head.li
  obtain⟨p,rfl⟩:∃p:Nat,Q=p:=⟨Q.toNat,by omega⟩
  have hp:p<b.A.length:=by omega
  rw[qQ]
  rcases lA a (in_:=in_) (by omega) p (Ec N b s in_ (p:Int) x true) with e|⟨hts,e⟩
  ·exact e
  rw[e]
  unfold Ec
  rcases kZ a ai p (D3 N b s in_ (p:Int) x true) with e|⟨hs3,e⟩
  ·exact e
  rw[e]
  unfold D3
  rw[kY a (by omega)]
  unfold Fg
  have hg:=VR in_.X in_.X.length
  have az:=Vy (f:=λk=>OB (Lc b k) p) (c:=2) (λi=>VN _ _) b.E.length
  have af:sm (λk=>OB (Lc b k) p) b.E.length≤192:=by omega
  generalize hG:Nn in_.X in_.X.length=G at*
  obtain⟨tv,et,p1,p2,_⟩:=Z3 a (W:=b.J.length) (P:=b.A.length) (by omega) d.rg.x.own (by omega) (by omega) d.rg.x.que d.rg.x.inn d.rg.x.tot
  have a0:=p1.sum0
  have a3:=p1.mv
  have a7:=J5 d.rg.x.inn0
  have a8:=d.rg.x.inns
  rw[et,qN,QE a (by rw[p1.len];omega) p1.nn (by omega),qN,Cx (n:=tv.sum+G) (by omega) (by omega),Cx (n:=tv.sum+G+x) (by omega) (by omega)]
  by_cases o:1125899906842624<tv.sum+G+x
  ·rw[rF o];rfl
  rw[rD o,qQ,QE a (by rw[d.rg.x.inn];omega) d.rg.x.inn0 (by omega),qN,Cx (n:=s.S.sum+G) (by omega) (by omega),qN]
  by_cases aa:1152921504606846976<s.S.sum+G
  ·rw[rF aa];rfl
  obtain⟨y0,hy,D,H⟩:=d.rg.x.own.ix hp
  have aj:=d.rg.x.own.len
  have ab:List.replicate ((b.J.length:Int)).toNat (0:Int)=List.replicate b.J.length 0:=rfl
  obtain⟨w0,ak⟩:=Df.ix (l:=List.replicate b.J.length (0:Int)) (i:=0) (rN _) (by simp;omega)
  have al:=cM w (n:=x) (by omega) (by omega)
  have a9:=d.rg.x.own.le D
  have am:=(Hm d.rg.x.que 0).2
  rw[tE,show HG ([]:List BD)=0 from rfl] at am
  rw[rD aa,qQ,KI (by simp;omega),Jj (by omega) _ (by decide),ab,ak,qN,qN,hy,qN,show upd (List.replicate b.J.length (0:Int)) 0 x=v1 b.J.length x from rfl,H.padd a (by omega) al,qN,rQ,hy,qN,qN]
  obtain⟨vu,eu,ku⟩:=Rq (N:=N) a m.head m.places ({ s with F:=upd s.F (p:Int) (Fw y0 (v1 b.J.length x))}:A7) (by show s.M.length≤_;omega)
  rw[eu,qN]
  cases vu with
  |false=>rfl
  |true=>
   have hu:=ku rfl
   have an:E8 (upd s.F (p:Int) (Fw y0 (v1 b.J.length x)))=E8 s.F+x:=by
    rw[NI D,I1 (by rw[H.len,OF]),PH w];omega
   obtain⟨r,gs,o2,ba,ms,z,V,er,hV,A⟩:=WB t m Y d (by omega) (in_:=in_) (by omega) (by omega) (by omega) (by omega) hp hts (x:=x) (by omega) (by omega) (by omega)
   obtain⟨r',bb,bc,au,be,z',V',ao,ap,B⟩:=WB t m Y hu (by show s.M.length≤_;omega) (in_:=in_) (by omega) (by omega) (by omega) (by omega) hp hts (x:=x) (by omega) (by show E8 (upd s.F (p:Int) _)+HG s.M+_≤_;rw[an];omega) (by show s.S.sum+_≤_;omega)
   have aq:∀l∈b.E,l.C= -1∨l.C≠l.G:=by
    have h1:=ah
    unfold EE at h1
    have:=R0 Z (by omega) N 0 (qW _) h1
    rwa [List.drop_zero] at this
   have I:∀l∈b.E,l.B=0→Xk (KE l.Af) (J7 N l):=λl K h0=>by
    refine YW t (u.links l K) h0 ?_
    have fr:=(u.links l K).fr
    have hi:l.G.toNat<b.A.length:=by omega
    have a1:=u.sums l.G.toNat _ (rC hi)
    have a2:=u.rt0 _ (rH hi)
    have a4:MY N l l.G.toNat≤(b.E.map λk=>MY N k l.G.toNat).sum:=IW (λy hy=>by
     obtain⟨k,hk,rfl⟩:=rX.1 hy
     exact u.ctr0 k hk _) _ (rX.2 ⟨l,K,rfl⟩)
    have a5:=(u.lk l K).t0
    have a6:J7 N l≤MY N l l.G.toNat:=by
     unfold MY
     rw[qR (show l.G=((l.G.toNat:Nat):Int) by omega)]
     split<;>omega
    omega
   obtain⟨ar,q,q',hq,ac,d1,d2⟩:=Yd t u aq I hp (by omega) D H.len w d.rg.x.rem aj A B hV ap hs3
   have j:=A.own.all q (sC hq)
   have g:=B.own.all q' (sC ac)
   have b1:=j.sum0
   have b2:=j.mv
   have b3:=g.sum0
   have b4:=g.mv
   have ad:∀{l:List (List Int)} {i:Nat} {v:List Int},l[i]? =some v→ix l (i:Int)=some v:=λ{l i v} h=>by
    have K:=(rB.1 h)
    rw[BR K.1,K.2]
   have ae:(decide ((r.2.2.length:Int)≠(b.A.length:Int))||decide ((r'.2.2.length:Int)≠(b.A.length:Int)))=false:=by
    rw[A.pl,B.pl];simp
   rw[sH,qQ,er,qN,ao,qN,ae,qQ,kX a Z ⟨by omega,by omega⟩ A.pr ar]
   unfold Eb
   rw[ad ac,qN,QE a (by rw[g.len];omega) g.nn (by omega),qN,ad hq,qN,QE a (by rw[j.len];omega) j.nn (by omega),qN,Cx (n:=q'.sum-q.sum) (by omega) (by omega),Cx (n:=0-(2+sm (λk=>OB (Lc b k) p) b.E.length)) (by omega) (by omega),Cx (n:=x+(2+sm (λk=>OB (Lc b k) p) b.E.length)) (by omega) (by omega),rF (by omega),rF (by omega)]
   rfl
def Qc (b:AU) (s:A7) (in_:DO) (p x:Int):Gm BN b s in_ p x=some true:=Tt oE aB b s in_ p x
end Go.Proofs.YtblcgjadhemlbaaGreat
namespace Go.Proofs.YtblcgjadhemlbaaGreat
set_option linter.all false
open Go.ChangeShapes Go.WideShapes Go.ChangeAt Go.RowKit Go.Deep
def FJ {α}(P:Program) (t:TypeId) (r:BZ α):Prop:=
 P.cellsOf t=r.sz∧∀{H:Type} {enc:TypeId×Value→H} {w:World} {c:Nat} {a:Nat→Bool} {d:Bool} {g:Nat} {cs:List Value} {x:DataW H×List MemPlace},
  DataW.trod enc P w c a d g t cs=some x→∃y,r.rd (λb=>b<w.heap.size) w.heap cs y
def aO {n:Int}(a:(Lit.int .i64 n).wf=true):AH n:=by
 simpa [Lit.wf,IntKind.min,IntKind.max,IntKind.signed,IntKind.bits,AH] using a
def XJ {P:Program}{t:TypeId}(i:P.cellsOf t=1) (j:P.underlying t=some (.int .i64)):FJ P t AJ:=by
 refine⟨i,λ{H enc w d b g a cs x} o=>?_⟩
 cases a with
 |zero=>simp [DataW.trod] at o
 |succ n=>
  unfold DataW.trod at o
  simp only[j] at o
  split at o<;>simp_all
  rename_i k l m
  obtain⟨⟨rfl,c⟩,_⟩:=o
  subst m
  exact⟨l,rfl,aO c⟩
def VI {P:Program}{t:TypeId}(g:P.cellsOf t=1) (i:P.underlying t=some .bool):FJ P t BZ.bool:=by
 refine⟨g,λ{H enc w c b d a cs x} j=>?_⟩
 cases a with
 |zero=>simp [DataW.trod] at j
 |succ n=>
  unfold DataW.trod at j
  simp only[i] at j
  split at j<;>first|(exact ⟨_,rfl⟩)|simp_all
def XI {P:Program}{t:TypeId}(g:P.cellsOf t=1) (i:P.underlying t=some .string):FJ P t BZ.str:=by
 refine⟨g,λ{H enc w c b d a cs x} j=>?_⟩
 cases a with
 |zero=>simp [DataW.trod] at j
 |succ n=>
  unfold DataW.trod at j
  simp only[i] at j
  split at j<;>simp_all
  exact⟨_,rfl,j.1⟩
def Pj {α}{p:Nat→α→Prop}:∀n,(∀i,i<n→∃x,p i x)→∃l:List α,l.length=n∧∀i x,l[i]? =some x→p i x
 |0,_=>⟨[],rfl,λi x j=>by simp at j⟩
 |n+1,j=>by
  obtain⟨l,b,c⟩:=Pj n λi d=>j i (by omega)
  obtain⟨x,g⟩:=j n (by omega)
  refine⟨l++[x],by simp [b],λi y a=>?_⟩
  rw[List.getElem?_append] at a
  split at a
  ·exact c i y a
  ·rename_i d
   have:i-l.length=0:=by
    have:=(rB.1 a).1
    simp at this;omega
   rw[this] at a
   simp at a
   subst a
   have:i=n:=by omega
   subst this
   exact g
def HH {P:Program}{t e:TypeId}{α}{r:BZ α}(Q:P.cellsOf t=1) (U:P.underlying t=some (.slice e)) (A:FJ P e r) (V:Nat.blt 0 r.sz=true):FJ P t (BZ.sl r):=by
 refine⟨Q,λ{H enc w J B K M cs x} h=>?_⟩
 have k:0<r.sz:=(by simpa [Nat.blt] using V:1≤r.sz)
 rcases open_slice U h with ⟨rfl,_⟩|⟨a,len,cap,m,n,D,Pl,rfl,hb,hlc,hcm,hm,_,hel⟩
 ·exact⟨[],_,rfl,.inl ⟨rfl,rfl⟩⟩
 ·have W:len≤m:=by rw[hm];split<;>omega
  obtain⟨l,X,C⟩:=Pj (p:=λi x=>a.spot=none∧Pt (λb=>b<w.heap.size) w.heap r (.pointer (some ⟨a.block,a.off+i*r.sz,none⟩)) x) len λi hi=>by
   obtain⟨cs',F,G⟩:=hel i (by omega)
   obtain⟨y,Y⟩:=A.2 G
   obtain⟨_,q,I5⟩:=World.cells?_some F
   rw[A.1] at q I5
   have u:a.spot=none:=by
    obtain⟨v,I,_⟩:=hel 0 (by omega)
    obtain⟨_,g,c⟩:=World.cells?_some I
    rw[A.1] at g c
    have h0:=c 0 k
    have Z:(a.add (0*r.sz)).add 0=a:=by simp [Addr.add]
    rw[Z] at h0
    cases hs:a.spot with
    |none=>rfl
    |some s=>
     have:w.cell? a=none:=by
      unfold World.cell?
      split
      ·simp [hs]
      ·rfl
     rw[this] at h0
     have:v[0]? =some (v[0]'(by omega)):=rC (by omega)
     rw[this] at h0
     cases h0
   obtain⟨b,o,s⟩:=a
   simp only at u
   subst u
   have d:∀j,((⟨b,o,none⟩:Addr).add (i*r.sz)).add j=⟨b,o+i*r.sz+j,none⟩:=by
    intro j
    have e1:(⟨b,o,none⟩:Addr).add (i*r.sz)=⟨b,o+i*r.sz,none⟩:=by unfold Addr.add;split<;>simp_all
    rw[e1];unfold Addr.add;split<;>simp_all
   have z:b<w.heap.size:=by
    have h0:=I5 0 k
    rw[d] at h0
    have:cs'[0]? =some (cs'[0]'(by omega)):=rC (by omega)
    rw[this] at h0
    exact World.block_lt_of_cell? w _ h0
   refine⟨y,rfl,cs',⟨⟨b,o+i*r.sz,none⟩,rfl,rfl,z,λj hj=>?_⟩,Y⟩
   have:=I5 j (by omega)
   rw[d] at this
   exact this
  exact⟨l,_,rfl,.inr ⟨a,cap,by rw[X],by omega,hcm,C⟩⟩
def EH {P:Program}{t:TypeId}{l:Array Field}(q:P.underlying t=some (.struct l)) {H:Type}{enc:TypeId×Value→H}{w:World}{c:Nat}{a:Nat→Bool}{d:Bool}{g:Nat}{cs:List Value}{x:DataW H×List MemPlace}
  (v:DataW.trod enc P w c a d g t cs=some x):cs.length=P.cellsOf t∧∀(j:Nat) (f:Field) {z} (r:BZ z),l[j]? =some f→FJ P f.type r→∃y,r.rd (λb=>b<w.heap.size) w.heap ((cs.drop f.offset).take r.sz) y:=by
 obtain⟨xs,n,_,_,s,i,u⟩:=DataW.trod_struct q v
 refine⟨s,λj f z r m o=>?_⟩
 have p:=u j f m
 have k:j<xs.length:=by rw[i];exact(rM.1 m).1
 rw[rC k,o.1] at p
 exact o.2 p
def VX {P:Program}{t:TypeId}{l:Array Field}{α}{r:BZ α}(m:FJ P t r) (i:r.ag=true) (n:P.underlying t=some (.struct l)) {H:Type}{enc:TypeId×Value→H}{w:World}{j:Reach}{o c:Nat}{a:Nat→Bool}{g:Bool}{v:Value}{d:DataW H}{p:List MemPlace}
  (q:Value.okWide P w j o t v) (x:DataW.Trod enc P w c a g t v d p):∃y,Rd (λb=>b<w.heap.size) w.heap r v y:=by
 obtain⟨cs,rfl,_⟩:=okWide_struct n q
 obtain⟨k,s⟩:=x
 obtain⟨y,u⟩:=m.2 s
 exact⟨y,cs.toList,by simp [BZ.val,i],u⟩
def Xa {v:Value}{c:Value}(b:v.cells.toList=[c]) (a:c.oneCell'=true):v=c∨∃cs,v= .agg cs:=by
 cases v<;>first|(right;exact⟨_,rfl⟩)|(left;simpa [Value.cells] using b)
def Wo {P:Program}{t:TypeId}{α}{r:BZ α}(u:FJ P t r) (m:r.ag=false) (n:r.sz=1) {H:Type}{enc:TypeId×Value→H}{w:World}{g:Nat}{a:Nat→Bool}{i:Bool}{v:Value}{d:DataW H}{p:List MemPlace}
  (o:∀cs,v≠ .agg cs) (z:DataW.Trod enc P w g a i t v d p):∃y,Rd (λb=>b<w.heap.size) w.heap r v y:=by
 obtain⟨q,x⟩:=z
 obtain⟨y,l⟩:=u.2 x
 have s:=r.len l
 rw[n] at s
 match j:v.cells.toList,s with
 |[c],_=>
  rw[j] at l
  have k:=r.one l c (by simp)
  rcases Xa j k with rfl|⟨cs,rfl⟩
  ·exact⟨y,[v],by simp [BZ.val,m],l⟩
  ·exact absurd rfl (o cs)
def Yb {P:Program}{t:TypeId}{k:IntKind}(b:P.underlying t=some (.int k)) {w:World}{a:Reach}{c:Nat}{v:Value}(d:Value.okWide P w a c t v):∀cs,v≠ .agg cs:=by
 rintro cs rfl;simp [Value.okWide,b,Cell.okWide,Cell.ok] at d
def N8 {H:Type}{enc:TypeId×Value→H}{P:Program}(m:laidOutB P=true) {W n:World}(o:Below W.heap.size W n):
  ∀{j:List TypeId} {vs:List Value} {k:List (DataW H)} {b:List MemPlace},(∀t∈j,P.readableRec t=true∧t<P.types.size)→DataW.TrodAll enc P W 0 (λ_=>true) true j vs k b→(∀x∈b,x.block<W.heap.size)→
   ∀c:Nat→Bool,(∀x∈b,c x.block=true)→DataW.TrodAll enc P n 0 c true j vs k b
 |[],vs,k,b,_,C,_,c,_=>by
  obtain⟨rfl,rfl,rfl⟩:=trodAll_nil C
  exact rfl
 |t::j,vs,k,b,s,C,g,c,i=>by
  obtain⟨v,u,d,w,p,q,rfl,rfl,rfl,y,z⟩:=trodAll_cons C
  obtain⟨A,B⟩:=s t (by simp)
  refine⟨p,q,WideElems.Trod_stays m A B y (λx a=>o.same (g x (by simp [a]))) (λx a=>i x (by simp [a])),?_,rfl⟩
  exact N8 m o (λt l=>s t (by simp [l])) z (λx a=>g x (by simp [a])) c λx a=>i x (by simp [a])
def Yk {H:Type}{enc:TypeId×Value→H}{P:Program}{f:Func}{s:ChangeSpec}{W l:World}{c:Array Value}{d i:List (DataW H)}{a:List MemPlace}{tb:TypeId}
  (q:laidOutB P=true) (j:f.params.toList.all (λt=>P.readableRec t&&decide (t<P.types.size))=true) (k:DataW.Whole enc P f.params.toList s.vars false W c.toList d i a)
  (u:f.resultTypes= #[tb]) (v:P.underlying tb=some .bool) (b:s.vars=[]) (w:(s.fn H (d++i)).results=[.lit (.bool true)]) (y:(s.fn H (d++i)).args=d) (z:(s.fn H (d++i)).vars=[])
  (m:Below W.heap.size W l):s.post enc P f false true false false W c (.bool true) l:=by
 have g:∀p∈a,p.block<W.heap.size:=λp A=>k.lt p A
 obtain⟨n,F,B,o,rfl,G,I⟩:=id k
 rw[b] at o
 obtain⟨rfl,rfl⟩:=trodVars_none o
 simp only[sL] at*
 refine⟨d,[],n,[],n,[],by simpa using k,?_,?_,?_,?_,λJ=>by cases J⟩
 ·simp only[sL]
  rw[w,u]
  exact trodAll_mk1 (shut_bool v true)
 ·simp only[sL]
  rw[y]
  refine N8 q m (λt C=>?_) B g _ λx D=>by simpa using g x D
  have:=qV.1 j t C
  simpa using this
 ·simp only[sL]
  rw[z,b]
  exact rfl
 ·exact m.frame _
def XM {P:Program}{f:FuncId}{a:Array Value}{W:World}{L:(Nat→Prop)→BM→Prop}(k:DK P f a (λb=>b<W.heap.size) W.heap (λv S' h'=>v= .bool true∧L S' h')):
  Calls P f a W λe d=>e= .returned (.bool true)∧Below W.heap.size W d:=
 (k W W ⟨rfl,rfl,rfl,rfl⟩).mono λe d ⟨v,S',h',i,c,g,j,_⟩=>by
  subst i;subst j
  exact⟨rfl,c.os,c.tape,c.out,by rw[c.heap];exact g.siz,λb l=>by rw[c.heap];exact g.same b l⟩
end Go.Proofs.YtblcgjadhemlbaaGreat
