import Derived.Test.YtabonambpbofgaaGreatQInst
import Derived.Test.YtabonambpbofgaaGreatQForms
import Derived.Test.YtabonambpbofgaaGreatQWalk1
import Derived.Test.YtabonambpbofgaaGreatQSortD
import Derived.Test.YtabonambpbofgaaGreatQWalk7
namespace Go.Proofs.YtabonambpbofgaaGreat
set_option linter.all false
open Go.RowKit
open Go.Proofs.Tryz
set_option maxRecDepth 10000
set_option maxHeartbeats 20000000
variable {r:Bool}{C H J X Y Z a ab ac ad ae b c g j k l m n p t u:Value}{d:List HE}{s:BG}{xj:AS}{y:Nat}
variable{N:Nat}{S:Nat->Prop}{L:List HP}{h:AV}
def Q7(p:St S L h){c:DP}(b:Rd S h Eh a c)(E:Jx N c=some r):
 CG prog 85 #[a] S h (λv S' h'=>v= .bool r/\St S' (L) h'):=by
 refine CG.go 8 func85 O ntmps85 O λB=>?_;rw[Jx]at E;refine AU ?_;refine CC O b CE O p λw S2 x d y m=>AU ?_;refine CP (.inl O) d ?_;have q:=m.fl DP.f_a;obtain⟨z,_,i⟩:=q.ll;have j:=m.fl DP.f_b;obtain⟨s,_,k⟩:=j.ll;refine AU ?_;refine BD E O O O Adp O (λl g h' o=>OV (St.all h') (i.mono' (o.all d.1)) (k.mono' (o.all d.1)) g) λl E=>AU ?_;exact BW (kp [2] O) λt n u=>RT
def JC(H:St S L h)(i:Sl S h Ct b d){g:List HE}(j:Sl S h Ct c g)(E:DZ N d g=some r):
 CG prog 157 #[b,c] S h (λv S' h'=>v= .bool r/\St S' (L) h'):=by
 refine CG.go 26 func157 O ntmps157 O λB=>?_;rw[DZ]at E;refine AU ?_;refine AK O E (λI E=>?_) (λI E=>?_)
 ·exact RT
 refine AU ?_;refine AT (λa w=>IV B S h (26,[]) a w [] (L) λ_ _=>CV N=some r) ?_ ?_
 ·refine A0 (λF=>λa w=>∃(s:Int),IV B S h (26,[]) a w [(12,vI (↑d.length:Int)),(0,b),(1,c),(13,vI s)] (L) λ_ _=>AB s/\CF N d g (CV N) F s=some r) N ?_ ?_ ?_
  ·intro p q k l;exact⟨0,_,_,k.sub (kp [12,0,1,13] O),l,H,(CO.refl S h),(iq (n:=0) O),E⟩
  ·rintro p q⟨_,_,_,_,_,_,_,_,E⟩;rw[CF]at E;cases E
  rintro F p q⟨s,S9,J,k,l,o,m,r8,E⟩;refine AL ?_ k l;clear k l q p;rw[CF]at E;refine AU ?_;refine AK O E (λt E=>?_) (λt E=>?_)
  ·refine AU ?_;refine AW (AU ?_);refine Ip (.inr ⟨mo,Γ⟩) (AU ?_);have u:=i.mono' m;refine BE E O O u iK.1 O λK E M x=>?_;obtain⟨Q,_,y⟩:=x.lv;refine AU ?_;have z:=j.mono' m;refine BE E O O z iK.1 O λU E V A=>?_;obtain⟨W,_,C⟩:=A.lv;refine AU ?_;obtain⟨rfl,⟨X,Y⟩⟩:=Ct.ex y;obtain⟨rfl,⟨Z,ab⟩⟩:=Ct.ex C;refine U9 O O xP O O O O (AU ?_);refine AK O E (λD E=>?_) (λD E=>?_)
   ·exact RT
   refine AU ?_;refine BF (AU ?_);refine WF.nil (λp q k l=>?_);exact⟨(BO (s+1)),_,_,k.sub (kp [12,0,1,13] O),l,o,m,(BQ _),E⟩
  refine BL O (λp q k l=>?_);exact⟨_,_,k.sub Ts,l,o,m,E⟩
 rintro p q⟨ac,ad,k,l,G,ae,E⟩;refine AL ?_ k l;clear k l q p;rw[CV]at E;exact RT
def Mc(p:St S L h){c:Ke}(b:Rd S h Lg a c)(E:E6 N c=some r):
 CG prog 86 #[a] S h (λv S' h'=>v= .bool r/\St S' (L) h'):=by
 refine CG.go 8 func86 O ntmps86 O λB=>?_;rw[E6]at E;refine AU ?_;refine CC O b CE O p λw S2 x d y m=>AU ?_;refine CP (.inl O) d ?_;have q:=m.fl Ke.f_a;obtain⟨z,_,i⟩:=q.ll;have j:=m.fl Ke.f_b;obtain⟨s,_,k⟩:=j.ll;refine AU ?_;refine BD E O O O yY O (λl g h' o=>JC (St.all h') (i.mono' (o.all d.1)) (k.mono' (o.all d.1)) g) λl E=>AU ?_;exact BW (kp [2] O) λt n u=>RT
def J5(H:St S L h){d:List L9}(i:Sl S h Fj b d){g:List L9}(j:Sl S h Fj c g)(E:Dp N d g=some r):
 CG prog 158 #[b,c] S h (λv S' h'=>v= .bool r/\St S' (L) h'):=by
 refine CG.go 26 func158 O ntmps158 O λB=>?_;rw[Dp]at E;refine AU ?_;refine AK O E (λI E=>?_) (λI E=>?_)
 ·exact RT
 refine AU ?_;refine AT (λa w=>IV B S h (26,[]) a w [] (L) λ_ _=>Cq N=some r) ?_ ?_
 ·refine A0 (λF=>λa w=>∃(s:Int),IV B S h (26,[]) a w [(12,vI (↑d.length:Int)),(0,b),(1,c),(13,vI s)] (L) λ_ _=>AB s/\CN N d g (Cq N) F s=some r) N ?_ ?_ ?_
  ·intro p q k l;exact⟨0,_,_,k.sub (kp [12,0,1,13] O),l,H,(CO.refl S h),(iq (n:=0) O),E⟩
  ·rintro p q⟨_,_,_,_,_,_,_,_,E⟩;rw[CN]at E;cases E
  rintro F p q⟨s,S9,J,k,l,o,m,r8,E⟩;refine AL ?_ k l;clear k l q p;rw[CN]at E;refine AU ?_;refine AK O E (λt E=>?_) (λt E=>?_)
  ·refine AU ?_;refine AW (AU ?_);refine Ip (.inr ⟨mo,Γ⟩) (AU ?_);have u:=i.mono' m;refine BE E O O u iJ.1 O λK E M x=>?_;obtain⟨Q,_,y⟩:=x.lv;refine AU ?_;have z:=j.mono' m;refine BE E O O z iJ.1 O λU E V A=>?_;obtain⟨W,_,C⟩:=A.lv;refine AU ?_;obtain⟨rfl,⟨X,Y⟩⟩:=Fj.ex y;obtain⟨rfl,⟨Z,ab⟩⟩:=Fj.ex C;refine U9 O O xO O O O O (AU ?_);refine AK O E (λD E=>?_) (λD E=>?_)
   ·exact RT
   refine AU ?_;refine BF (AU ?_);refine WF.nil (λp q k l=>?_);exact⟨(BO (s+1)),_,_,k.sub (kp [12,0,1,13] O),l,o,m,(BQ _),E⟩
  refine BL O (λp q k l=>?_);exact⟨_,_,k.sub Ts,l,o,m,E⟩
 rintro p q⟨ac,ad,k,l,G,ae,E⟩;refine AL ?_ k l;clear k l q p;rw[Cq]at E;exact RT
def Mx(p:St S L h){c:OG}(b:Rd S h Ob a c)(E:Fg N c=some r):
 CG prog 87 #[a] S h (λv S' h'=>v= .bool r/\St S' (L) h'):=by
 refine CG.go 8 func87 O ntmps87 O λB=>?_;rw[Fg]at E;refine AU ?_;refine CC O b CE O p λw S2 x d y m=>AU ?_;refine CP (.inl O) d ?_;have q:=m.fl OG.f_a;obtain⟨z,_,i⟩:=q.ll;have j:=m.fl OG.f_b;obtain⟨s,_,k⟩:=j.ll;refine AU ?_;refine BD E O O O yX O (λl g h' o=>J5 (St.all h') (i.mono' (o.all d.1)) (k.mono' (o.all d.1)) g) λl E=>AU ?_;exact BW (kp [2] O) λt n u=>RT
def Jb(H:St S L h){d:List FO}(i:Sl S h DU b d){g:List FO}(j:Sl S h DU c g)(E:Dd N d g=some r):
 CG prog 159 #[b,c] S h (λv S' h'=>v= .bool r/\St S' (L) h'):=by
 refine CG.go 26 func159 O ntmps159 O λB=>?_;rw[Dd]at E;refine AU ?_;refine AK O E (λI E=>?_) (λI E=>?_)
 ·exact RT
 refine AU ?_;refine AT (λa w=>IV B S h (26,[]) a w [] (L) λ_ _=>CZ N=some r) ?_ ?_
 ·refine A0 (λF=>λa w=>∃(s:Int),IV B S h (26,[]) a w [(12,vI (↑d.length:Int)),(0,b),(1,c),(13,vI s)] (L) λ_ _=>AB s/\CJ N d g (CZ N) F s=some r) N ?_ ?_ ?_
  ·intro p q k l;exact⟨0,_,_,k.sub (kp [12,0,1,13] O),l,H,(CO.refl S h),(iq (n:=0) O),E⟩
  ·rintro p q⟨_,_,_,_,_,_,_,_,E⟩;rw[CJ]at E;cases E
  rintro F p q⟨s,S9,J,k,l,o,m,r8,E⟩;refine AL ?_ k l;clear k l q p;rw[CJ]at E;refine AU ?_;refine AK O E (λt E=>?_) (λt E=>?_)
  ·refine AU ?_;refine AW (AU ?_);refine Ip (.inr ⟨mo,Γ⟩) (AU ?_);have u:=i.mono' m;refine BE E O O u iI.1 O λK E M x=>?_;obtain⟨Q,_,y⟩:=x.lv;refine AU ?_;have z:=j.mono' m;refine BE E O O z iI.1 O λU E V A=>?_;obtain⟨W,_,C⟩:=A.lv;refine AU ?_;obtain⟨rfl,⟨X,Y,Z,ab⟩⟩:=DU.ex y;obtain⟨rfl,⟨ac,ad,ae,af⟩⟩:=DU.ex C;refine U9 O O xN O O O O (AU ?_);refine AK O E (λD E=>?_) (λD E=>?_)
   ·exact RT
   refine AU ?_;refine BF (AU ?_);refine WF.nil (λp q k l=>?_);exact⟨(BO (s+1)),_,_,k.sub (kp [12,0,1,13] O),l,o,m,(BQ _),E⟩
  refine BL O (λp q k l=>?_);exact⟨_,_,k.sub Ts,l,o,m,E⟩
 rintro p q⟨ag,ah,k,l,G,ai,E⟩;refine AL ?_ k l;clear k l q p;rw[CZ]at E;exact RT
def Ml(p:St S L h){c:L7}(b:Rd S h M8 a c)(E:FE N c=some r):
 CG prog 88 #[a] S h (λv S' h'=>v= .bool r/\St S' (L) h'):=by
 refine CG.go 8 func88 O ntmps88 O λB=>?_;rw[FE]at E;refine AU ?_;refine CC O b CE O p λw S2 x d y m=>AU ?_;refine CP (.inl O) d ?_;have q:=m.fl L7.f_a;obtain⟨z,_,i⟩:=q.ll;have j:=m.fl L7.f_b;obtain⟨s,_,k⟩:=j.ll;refine AU ?_;refine BD E O O O yW O (λl g h' o=>Jb (St.all h') (i.mono' (o.all d.1)) (k.mono' (o.all d.1)) g) λl E=>AU ?_;exact BW (kp [2] O) λt n u=>RT
def Jc(H:St S L h){d:List I3}(i:Sl S h Di b d){g:List I3}(j:Sl S h Di c g)(E:De N d g=some r):
 CG prog 160 #[b,c] S h (λv S' h'=>v= .bool r/\St S' (L) h'):=by
 refine CG.go 26 func160 O ntmps160 O λB=>?_;rw[De]at E;refine AU ?_;refine AK O E (λI E=>?_) (λI E=>?_)
 ·exact RT
 refine AU ?_;refine AT (λa w=>IV B S h (26,[]) a w [] (L) λ_ _=>Ca N=some r) ?_ ?_
 ·refine A0 (λF=>λa w=>∃(s:Int),IV B S h (26,[]) a w [(12,vI (↑d.length:Int)),(0,b),(1,c),(13,vI s)] (L) λ_ _=>AB s/\CL N d g (Ca N) F s=some r) N ?_ ?_ ?_
  ·intro p q k l;exact⟨0,_,_,k.sub (kp [12,0,1,13] O),l,H,(CO.refl S h),(iq (n:=0) O),E⟩
  ·rintro p q⟨_,_,_,_,_,_,_,_,E⟩;rw[CL]at E;cases E
  rintro F p q⟨s,S9,J,k,l,o,m,r8,E⟩;refine AL ?_ k l;clear k l q p;rw[CL]at E;refine AU ?_;refine AK O E (λt E=>?_) (λt E=>?_)
  ·refine AU ?_;refine AW (AU ?_);refine Ip (.inr ⟨mo,Γ⟩) (AU ?_);have u:=i.mono' m;refine BE E O O u Z2.1 O λK E M x=>?_;obtain⟨Q,_,y⟩:=x.lv;refine AU ?_;have z:=j.mono' m;refine BE E O O z Z2.1 O λU E V A=>?_;obtain⟨W,_,C⟩:=A.lv;refine AU ?_;obtain⟨rfl,⟨X,Y,Z,ab⟩⟩:=Di.ex y;obtain⟨rfl,⟨ac,ad,ae,af⟩⟩:=Di.ex C;refine U9 O O xM O O O O (AU ?_);refine AK O E (λD E=>?_) (λD E=>?_)
   ·exact RT
   refine AU ?_;refine BF (AU ?_);refine WF.nil (λp q k l=>?_);exact⟨(BO (s+1)),_,_,k.sub (kp [12,0,1,13] O),l,o,m,(BQ _),E⟩
  refine BL O (λp q k l=>?_);exact⟨_,_,k.sub Ts,l,o,m,E⟩
 rintro p q⟨ag,ah,k,l,G,ai,E⟩;refine AL ?_ k l;clear k l q p;rw[Ca]at E;exact RT
def Mm(p:St S L h){c:L8}(b:Rd S h M9 a c)(E:FG N c=some r):
 CG prog 89 #[a] S h (λv S' h'=>v= .bool r/\St S' (L) h'):=by
 refine CG.go 8 func89 O ntmps89 O λB=>?_;rw[FG]at E;refine AU ?_;refine CC O b CE O p λw S2 x d y m=>AU ?_;refine CP (.inl O) d ?_;have q:=m.fl L8.f_a;obtain⟨z,_,i⟩:=q.ll;have j:=m.fl L8.f_b;obtain⟨s,_,k⟩:=j.ll;refine AU ?_;refine BD E O O O yV O (λl g h' o=>Jc (St.all h') (i.mono' (o.all d.1)) (k.mono' (o.all d.1)) g) λl E=>AU ?_;exact BW (kp [2] O) λt n u=>RT
def QE(hs:St S L h){a:AX}(p:Rd S h BJ k a){b:AX}(q:Rd S h BJ l b)(E:JL N a b=some r):
 CG prog 39 #[k,l] S h (λv S' h'=>v= .bool r/\St S' (L) h'):=by
 refine CG.go 43 func39 O ntmps39 O λB=>?_;rw[JL]at E;refine AU ?_;refine CC O p CE O hs λq1 S2 h3 ax e5 k6=>?_;have k7:=q.mono e5;refine CC O k7 CE O ax λq8 S9 bh c ay m=>AU ?_;refine CP (.inl O) c ?_;have n:=k6.mono ay;have az:=n.fl AX.f_Rain;obtain⟨bi,_,H⟩:=az.ll;have a0:=m.fl AX.f_Rain;obtain⟨bj,_,I⟩:=a0.ll;refine AU ?_;obtain⟨J,s,rfl,bk⟩:=(H).len;obtain⟨K,t,rfl,bl⟩:=(I).len;refine GP (cs:=[(.slice J a.U.length s),(.slice K b.U.length t)]) vW O O O ?_;obtain⟨a1,M,E⟩:=bd E;refine Jk O O O Ac2 O (λh' o=>Q7 (St.all h') (Eh.mk (x:=(⟨a.U,b.U⟩:DP)) (H.mono' (o.all c.1)) (I.mono' (o.all c.1))) M) (AU ?_);obtain⟨Q,d,E⟩:=bd E;refine A3 7 18 (.bool Q) ?_ ?_
 ·cases W:a1
  ·have d:=Hl W d;cases d;exact BK O O
  have d:=Hk W d;have a2:=n.fl Lq;obtain⟨bm,_,X⟩:=a2.ll;have a3:=m.fl Lq;obtain⟨bn,_,Y⟩:=a3.ll;refine AU ?_;obtain⟨Z,u,rfl,bo⟩:=(X).len;obtain⟨aa,w,rfl,bp⟩:=(Y).len;refine GP (cs:=[(.slice Z a.Ab.length u),(.slice aa b.Ab.length w)]) vV O O O (AU ?_);obtain⟨bq,ab,d⟩:=bd d;refine Jk O O O Ac1 O (λh' o=>Mc (St.all h') (Lg.mk (x:=(⟨a.Ab,b.Ab⟩:Ke)) (X.mono' (o.all c.1)) (Y.mono' (o.all c.1))) ab) (AU ?_);cases d;exact A4 O
 refine AU ?_;obtain⟨ac,g,E⟩:=bd E;refine A3 7 26 (.bool ac) ?_ ?_
 ·cases ad:Q
  ·have g:=Hl ad g;cases g;exact BK O O
  have g:=Hk ad g;have a4:=n.fl NA;obtain⟨br,_,ae⟩:=a4.ll;have a5:=m.fl NA;obtain⟨bs,_,af⟩:=a5.ll;refine AU ?_;obtain⟨ag,y,rfl,bt⟩:=(ae).len;obtain⟨ah,z,rfl,bu⟩:=(af).len;refine GP (cs:=[(.slice ag a.Ac.length y),(.slice ah b.Ac.length z)]) vU O O O (AU ?_);obtain⟨bv,ai,g⟩:=bd g;refine Jk O O O Ac0 O (λh' o=>Mx (St.all h') (Ob.mk (x:=(⟨a.Ac,b.Ac⟩:OG)) (ae.mono' (o.all c.1)) (af.mono' (o.all c.1))) ai) (AU ?_);cases g;exact A4 O
 refine AU ?_;obtain⟨aj,i,E⟩:=bd E;refine A3 7 34 (.bool aj) ?_ ?_
 ·cases ak:ac
  ·have i:=Hl ak i;cases i;exact BK O O
  have i:=Hk ak i;have a6:=n.fl Me;obtain⟨bw,_,al⟩:=a6.ll;have a7:=m.fl Me;obtain⟨bx,_,am⟩:=a7.ll;refine AU ?_;obtain⟨an,A,rfl,bz⟩:=(al).len;obtain⟨ao,C,rfl,b0⟩:=(am).len;refine GP (cs:=[(.slice an a.V.length A),(.slice ao b.V.length C)]) vT O O O (AU ?_);obtain⟨b1,ap,i⟩:=bd i;refine Jk O O O Acz O (λh' o=>Ml (St.all h') (M8.mk (x:=(⟨a.V,b.V⟩:L7)) (al.mono' (o.all c.1)) (am.mono' (o.all c.1))) ap) (AU ?_);cases i;exact A4 O
 refine AU ?_;obtain⟨a8,j,E⟩:=bd E;refine A3 7 42 (.bool a8) ?_ ?_
 ·cases aq:aj
  ·have j:=Hl aq j;cases j;exact BK O O
  have j:=Hk aq j;have a9:=n.fl LB;obtain⟨b2,_,ar⟩:=a9.ll;have ba:=m.fl LB;obtain⟨b3,_,au⟩:=ba.ll;refine AU ?_;obtain⟨av,D,rfl,b4⟩:=(ar).len;obtain⟨aw,F,rfl,bc⟩:=(au).len;refine GP (cs:=[(.slice av a.Ad.length D),(.slice aw b.Ad.length F)]) vS O O O (AU ?_);obtain⟨be,G,j⟩:=bd j;refine Jk O O O Acy O (λh' o=>Mm (St.all h') (M9.mk (x:=(⟨a.Ad,b.Ad⟩:L8)) (ar.mono' (o.all c.1)) (au.mono' (o.all c.1))) G) (AU ?_);cases j;exact A4 O
 refine AU ?_;exact BW (kp [4] O) λbf bb bg=>RT
def JF(k:St S L h){c:List HE}(a:Sl S h Ct b c){r:List HE}(E:Da N c=some r):
 CG prog 90 #[b] S h (λv S' h'=>St S' (OS Ct 148 v r::L) h'):=by
 refine CG.go 8 func90 O ntmps90 O λB=>?_;rw[Da]at E;rcases a.cases with⟨rfl,rfl⟩|⟨n,m,rfl,a⟩
 ·have s:(some ([]:List HE))=some r:=by simpa[chk,HN]using E
  refine AU ?_;refine J2 O O O fO (AU ?_);refine Kr O (AU ?_);have d:=k.nil Ct 148;cases E;exact GF d O O EX
 refine AU ?_;refine K9 O O O fO (AU ?_);refine Ks O (AU ?_);refine Jl (r:=Ct) tK O O k λv1 t g o=>AU ?_;have p:=a.mono' o;obtain⟨i,E⟩:=MF E;refine Eg (r:=Ct) (l:=([]:List HE)) (xs:=c) O O tK O (Sl.src p) O i O g (λ_=> .head) λu w j q=>AU ?_;cases E;exact GF j O O EX
def J6(k:St S L h){c:List L9}(a:Sl S h Fj b c){r:List L9}(E:Dq N c=some r):
 CG prog 91 #[b] S h (λv S' h'=>St S' (OS Fj 153 v r::L) h'):=by
 refine CG.go 8 func91 O ntmps91 O λB=>?_;rw[Dq]at E;rcases a.cases with⟨rfl,rfl⟩|⟨n,m,rfl,a⟩
 ·have s:(some ([]:List L9))=some r:=by simpa[chk,HN]using E
  refine AU ?_;refine J2 O O O fN (AU ?_);refine Kr O (AU ?_);have d:=k.nil Fj 153;cases E;exact GF d O O EX
 refine AU ?_;refine K9 O O O fN (AU ?_);refine Ks O (AU ?_);refine Jl (r:=Fj) tJ O O k λv1 t g o=>AU ?_;have p:=a.mono' o;obtain⟨i,E⟩:=MF E;refine Eg (r:=Fj) (l:=([]:List L9)) (xs:=c) O O tJ O (Sl.src p) O i O g (λ_=> .head) λu w j q=>AU ?_;cases E;exact GF j O O EX
def Je(k:St S L h){c:List FO}(a:Sl S h DU b c){r:List FO}(E:Dg N c=some r):
 CG prog 92 #[b] S h (λv S' h'=>St S' (OS DU 158 v r::L) h'):=by
 refine CG.go 8 func92 O ntmps92 O λB=>?_;rw[Dg]at E;rcases a.cases with⟨rfl,rfl⟩|⟨n,m,rfl,a⟩
 ·have s:(some ([]:List FO))=some r:=by simpa[chk,HN]using E
  refine AU ?_;refine J2 O O O fM (AU ?_);refine Kr O (AU ?_);have d:=k.nil DU 158;cases E;exact GF d O O EX
 refine AU ?_;refine K9 O O O fM (AU ?_);refine Ks O (AU ?_);refine Jl (r:=DU) tI O O k λv1 t g o=>AU ?_;have p:=a.mono' o;obtain⟨i,E⟩:=MF E;refine Eg (r:=DU) (l:=([]:List FO)) (xs:=c) O O tI O (Sl.src p) O i O g (λ_=> .head) λu w j q=>AU ?_;cases E;exact GF j O O EX
def Jf(k:St S L h){c:List I3}(a:Sl S h Di b c){r:List I3}(E:Dh N c=some r):
 CG prog 93 #[b] S h (λv S' h'=>St S' (OS Di 163 v r::L) h'):=by
 refine CG.go 8 func93 O ntmps93 O λB=>?_;rw[Dh]at E;rcases a.cases with⟨rfl,rfl⟩|⟨n,m,rfl,a⟩
 ·have s:(some ([]:List I3))=some r:=by simpa[chk,HN]using E
  refine AU ?_;refine J2 O O O fL (AU ?_);refine Kr O (AU ?_);have d:=k.nil Di 163;cases E;exact GF d O O EX
 refine AU ?_;refine K9 O O O fL (AU ?_);refine Ks O (AU ?_);refine Jl (r:=Di) tH O O k λv1 t g o=>AU ?_;have p:=a.mono' o;obtain⟨i,E⟩:=MF E;refine Eg (r:=Di) (l:=([]:List I3)) (xs:=c) O O tH O (Sl.src p) O i O g (λ_=> .head) λu w j q=>AU ?_;cases E;exact GF j O O EX
def QH(hs:St S L h){a:AX}(K:Rd S h BJ j a){r:AX}(E:JN N a=some r):
 CG prog 40 #[j] S h (λv S' h'=>Rd S' h' BJ v r/\St S' (L) h'):=by
 refine CG.go 19 func40 O ntmps40 O λB=>?_;rw[JN]at E;refine AU ?_;refine CC O K CE O hs λq1 S2 h3 c2 e5 k6=>DT Zi O c2 λb7 M g el=>AU ?_;refine Rq (kp [2,1] O) ?_;obtain⟨w,be,E⟩:=bd E;obtain⟨y,bf,E⟩:=bd E;obtain⟨z,bg,E⟩:=bd E;obtain⟨A,bh,E⟩:=bd E;obtain⟨C,bi,E⟩:=bd E;refine OA (m:=[(2,vP b7 0),(1,q1)]) 16 (λi v d=>match i with|0=>Pt S2 d (A9.sl AC) v a.U|1=>Sl S2 d AC v a.U|2=>Sl (SN S2 M d) d AC v w|3=>Pt S2 d (A9.sl Ct) v a.Ab|4=>Sl S2 d Ct v a.Ab|5=>Sl (SN S2 M d) d Ct v y|6=>Pt S2 d (A9.sl Fj) v a.Ac|7=>Sl S2 d Fj v a.Ac|8=>Sl (SN S2 M d) d Fj v z|9=>Pt S2 d (A9.sl DU) v a.V|10=>Sl S2 d DU v a.V|11=>Sl (SN S2 M d) d DU v A|12=>Pt S2 d (A9.sl Di) v a.Ad|13=>Sl S2 d Di v a.Ad|14=>Sl (SN S2 M d) d Di v C|15=>Rd (SN S2 M d) d BJ v (⟨w,y,z,A,C⟩:AX)|_=>False) [[],[(0,3)],[(1,4)],[],[(3,6)],[(4,7)],[],[(6,9)],[(7,10)],[],[(9,12)],[(10,13)],[],[(12,15)],[(13,16)],[(2,5),(5,8),(8,11),(11,14),(14,17)]] [(15,18)] mo Γ [2,1] O Γ Γ Γ (kp [2,1] O) MO ?_ ?_
 ·refine A7.cons O ?_ ?_
  ·intro D d o;have c:=o.st g;have bj:=k6.nw;have bk:=bj.fl AX.f_Rain;refine AU ?_;exact B1 bk
  refine A7.cons O ?_ ?_
  ·intro D d o;intro bl Q;have c:=o.st g;have Q:Pt _ _ (A9.sl AC) bl a.U:=Q;obtain⟨c8,_,bm⟩:=Q.ll;refine AU ?_;exact B1 bm
  refine A7.cons O ?_ ?_
  ·intro D d o;intro bn l;have c:=SN.st g o;have l:=Sl.sn M l;have l:Sl _ _ AC bn a.U:=l;have b:=c.fz;refine El O O O N9 O b (B9 (St.all _) (l.mono b.ea.1 b.ea.2) be) λc9 da db c3 dc bo p=>?_;have aw:=p;have W:=b.join bo aw ⟨OS.flat (λ{_ _ _ _ _ _} k=>k),trivial⟩;simp only[Ag4,Ag3]at W;obtain⟨dd,ax,de,bp⟩:=W.pubs .head;have X:=Fz.done o EX ax;exact BB X.1 (Sl.mono' bp X.2)
  refine A7.cons O ?_ ?_
  ·intro D d o;have c:=o.st g;have bq:=k6.nw;have br:=bq.fl Lq;refine AU ?_;exact B1 br
  refine A7.cons O ?_ ?_
  ·intro D d o;intro bs Y;have c:=o.st g;have Y:Pt _ _ (A9.sl Ct) bs a.Ab:=Y;obtain⟨df,_,bt⟩:=Y.ll;refine AU ?_;exact B1 bt
  refine A7.cons O ?_ ?_
  ·intro D d o;intro bu n;have c:=SN.st g o;have n:=Sl.sn M n;have n:Sl _ _ Ct bu a.Ab:=n;have b:=c.fz;refine El O O O Acx O b (JF (St.all _) (n.mono b.ea.1 b.ea.2) bf) λdg dh di c4 dj bv p=>?_;have ay:=p;have Z:=b.join bv ay ⟨OS.flat (λ{_ _ _ _ _ _} k=>k),trivial⟩;simp only[Ag4,Ag3]at Z;obtain⟨dk,az,dl,bw⟩:=Z.pubs .head;have ab:=Fz.done o EX az;exact BB ab.1 (Sl.mono' bw ab.2)
  refine A7.cons O ?_ ?_
  ·intro D d o;have c:=o.st g;have bx:=k6.nw;have bz:=bx.fl NA;refine AU ?_;exact B1 bz
  refine A7.cons O ?_ ?_
  ·intro D d o;intro b0 ac;have c:=o.st g;have ac:Pt _ _ (A9.sl Fj) b0 a.Ac:=ac;obtain⟨dm,_,b1⟩:=ac.ll;refine AU ?_;exact B1 b1
  refine A7.cons O ?_ ?_
  ·intro D d o;intro b2 q;have c:=SN.st g o;have q:=Sl.sn M q;have q:Sl _ _ Fj b2 a.Ac:=q;have b:=c.fz;refine El O O O Acw O b (J6 (St.all _) (q.mono b.ea.1 b.ea.2) bg) λdn dp dq c5 dr b3 p=>?_;have a0:=p;have ad:=b.join b3 a0 ⟨OS.flat (λ{_ _ _ _ _ _} k=>k),trivial⟩;simp only[Ag4,Ag3]at ad;obtain⟨ds,a1,dt,b4⟩:=ad.pubs .head;have af:=Fz.done o EX a1;exact BB af.1 (Sl.mono' b4 af.2)
  refine A7.cons O ?_ ?_
  ·intro D d o;have c:=o.st g;have b5:=k6.nw;have b6:=b5.fl Me;refine AU ?_;exact B1 b6
  refine A7.cons O ?_ ?_
  ·intro D d o;intro b8 ag;have c:=o.st g;have ag:Pt _ _ (A9.sl DU) b8 a.V:=ag;obtain⟨du,_,b9⟩:=ag.ll;refine AU ?_;exact B1 b9
  refine A7.cons O ?_ ?_
  ·intro D d o;intro ca s;have c:=SN.st g o;have s:=Sl.sn M s;have s:Sl _ _ DU ca a.V:=s;have b:=c.fz;refine El O O O Acv O b (Je (St.all _) (s.mono b.ea.1 b.ea.2) bh) λdv dw dx c6 dy cb p=>?_;have a2:=p;have ah:=b.join cb a2 ⟨OS.flat (λ{_ _ _ _ _ _} k=>k),trivial⟩;simp only[Ag4,Ag3]at ah;obtain⟨dz,a3,d0,cc⟩:=ah.pubs .head;have ai:=Fz.done o EX a3;exact BB ai.1 (Sl.mono' cc ai.2)
  refine A7.cons O ?_ ?_
  ·intro D d o;have c:=o.st g;have cd:=k6.nw;have ce:=cd.fl LB;refine AU ?_;exact B1 ce
  refine A7.cons O ?_ ?_
  ·intro D d o;intro cf aj;have c:=o.st g;have aj:Pt _ _ (A9.sl Di) cf a.Ad:=aj;obtain⟨d1,_,cg⟩:=aj.ll;refine AU ?_;exact B1 cg
  refine A7.cons O ?_ ?_
  ·intro D d o;intro ch t;have c:=SN.st g o;have t:=Sl.sn M t;have t:Sl _ _ Di ch a.Ad:=t;have b:=c.fz;refine El O O O Acu O b (Jf (St.all _) (t.mono b.ea.1 b.ea.2) bi) λd2 d3 d4 c7 d5 ci p=>?_;have a4:=p;have ak:=b.join ci a4 ⟨OS.flat (λ{_ _ _ _ _ _} k=>k),trivial⟩;simp only[Ag4,Ag3]at ak;obtain⟨d6,a5,d7,cj⟩:=ak.pubs .head;have am:=Fz.done o EX a5;exact BB am.1 (Sl.mono' cj am.2)
  refine A7.cons O ?_ ?_
  ·intro D d o;intro ck F cl G cm H cn I co J;have c:=SN.st g o;have F:Sl _ _ AC ck w:=F;have G:Sl _ _ Ct cl y:=G;have H:Sl _ _ Fj cm z:=H;have I:Sl _ _ DU cn A:=I;have J:Sl _ _ Di co C:=J;refine AU ?_;obtain⟨a6,ap,rfl,d8⟩:=(F).len;obtain⟨a7,aq,rfl,d9⟩:=(G).len;obtain⟨a8,ar,rfl,eb⟩:=(H).len;obtain⟨a9,au,rfl,ec⟩:=(I).len;obtain⟨ba,av,rfl,ed⟩:=(J).len;refine GP (cs:=[(.slice a6 w.length ap),(.slice a7 y.length aq),(.slice a8 z.length ar),(.slice a9 A.length au),(.slice ba C.length av)]) Vi O O O (AU ?_);exact B1 (BJ.mk (x:=(⟨w,y,z,A,C⟩:AX)) F G H I J)
  exact trivial
 intro ee cp cq an;have bb:=SN.st g cp;have an:Rd _ _ BJ cq (⟨w,y,z,A,C⟩:AX):=an;obtain⟨ef,eg,eh,ei,ej,rfl,cr,ct,cu,cv,cw⟩:=BJ.ex an;refine H5 O O O ON PT.1 O bb .head O λek ao u=>AU ?_;refine CM (λaa ww hf hw=>?_);have cx:=cr.mono' u;have cy:=ct.mono' u;have cz:=cu.mono' u;have c0:=cv.mono' u;have c1:=cw.mono' u;have bc:=ao.drop .head;cases E;exact K0 hf O hw (Iv (Xu hf hw ao O mh PT.1 O) Kz) O EX ⟨(BJ.mk (x:=(⟨w,y,z,A,C⟩:AX)) cx cy cz c0 c1),bc⟩
def Tn(hs:St S L h){z:Value}{b:AH}(ad:Rd S h BP z b){r:AH}(E:Lc N b=some r):
 CG prog 57 #[z] S h (λv S' h'=>∃w1 w2 w3 w4 w5 w6:Value,v= .agg #[vI r.B,w1,w2,w3,w4,w5,w6]/\AB r.B/\Sl S' h' A5 w3 r.F/\St S' (OO AC 3 29 w1 r.D::OS AC 3 w2 r.P::OS BZ 107 w4 r.Q::OS AC 3 w5 r.K::OS AC 3 w6 r.O::L) h'):=by
 refine CG.go 43 func57 O ntmps57 O λB=>?_;rw[Lc]at E;refine AU ?_;obtain⟨v3,v5,v7,v9,U,M,rfl,r2,k4,k6,k8,bm,bn,bo⟩:=BP.ex ad;refine OD O O O hs λae cp az bp=>DT Pn O az λaf cq a0 cr=>?_;have cs:=k4.nw;refine AU ?_;obtain⟨a1,E⟩:=MF E;refine rZ AC 3 Uv O O a1 O O a0 λag an a2 ct=>?_;have bq:=k4.nw;refine AU ?_;refine AT (λa w=>∃(m:List xq),IV B S an (43,[]) a w [(3,ag),(2,vP af 0),(1,vP ae 0)] (OO AC 3 29 ag m::Bx af 36 [vI 0,vN,vN,vN,vN,vN,vN]::Bx ae 36 [vI b.B,v3,v5,v7,v9,U,M]::L) λ_ _=>GV N b m=some r) ?_ ?_
 ·refine A0 (λn1=>λa w=>∃(s:Int)(V:List xq),IV B S an (43,[]) a w [(12,vI (↑b.D.length:Int)),(11,v3),(3,ag),(2,vP af 0),(1,vP ae 0),(13,vI s)] (OO AC 3 29 ag V::Bx af 36 [vI 0,vN,vN,vN,vN,vN,vN]::Bx ae 36 [vI b.B,v3,v5,v7,v9,U,M]::L) λ_ _=>AB s/\GU N b (GV N b) n1 s V=some r) N ?_ ?_ ?_
  ·intro aa ww A C;exact⟨0,(List.replicate ((↑b.D.length:Int):Int).toNat ([]:xq)),_,_,A.sub (kp [12,11,3,2,1,13] O),C,a2,(CO.refl S an),(iq (n:=0) O),E⟩
  ·rintro aa ww⟨_,_,_,_,_,_,_,_,_,E⟩;rw[GU]at E;cases E
  rintro n1 aa ww⟨s,V,cu,cv,A,C,o,a3,cw,E⟩;refine AL ?_ A C;clear A C ww aa;rw[GU]at E;refine AU ?_;refine AK O E (λbr E=>?_) (λbr E=>?_)
  ·refine AU ?_;refine AW (AU ?_);have bs:=bq.mono' a3;refine BE E O O bs Js.1 O λcx E cy bt=>?_;obtain⟨cz,_,bu⟩:=bt.ll;refine AU ?_;refine Cj (AU ?_);refine Dc E O O O N9 O o (λa4 a5=>B9 (St.all _) (bu.mono o.ea.1 o.ea.2) a5) λa4 E c0 c1 c2 b3 c3 bv p=>?_;have a6:=p;have W:=o.join bv a6 ⟨OS.flat (λ{_ _ _ _ _ _} k=>k),trivial⟩;simp only[Ag4,Ag3]at W;refine AU ?_;obtain⟨c4,a7,E⟩:=bd E;refine Se (r:=AC) W (mt mh) O O Js.1 a7 O λc5 a8=>AU ?_;obtain⟨c6,a9,E⟩:=bd E;refine cG (r:=AC) (i:=s) O O a8 a9 GC.1 W λc7 ba c8=>AU ?_;refine BF (AU ?_);refine WF.nil (λaa ww A C=>?_);exact⟨(BO (s+1)),(upd V s a4),_,_,A.sub (kp [12,11,3,2,1,13] O),C,ba,EX,(BQ _),E⟩
  refine BL O (λaa ww A C=>?_);exact⟨V,_,_,A.sub (kp [3,2,1] O),C,o,a3,E⟩
 rintro aa ww⟨m,c9,da,A,C,aj,db,E⟩;refine AL ?_ A C;clear A C ww aa;rw[GV]at E;refine AU ?_;obtain⟨q,c,rfl,dc⟩:=aj.oolen mh;refine Gq (cs':=[vI b.B,(.slice q m.length c),v5,v7,v9,U,M]) O O O O Xh.1 O aj (.tail (.tail .head)) O O λdd G de=>AU ?_;refine Cj (AU ?_);have bw:=k6.nw;refine Dc E O O O N9 O G (λX bb=>B9 (St.all _) (bw.mono G.ea.1 G.ea.2) bb) λX E df dg dh b4 di bx p=>?_;have bc:=p;have Y:=G.join bx bc ⟨OS.flat (λ{_ _ _ _ _ _} k=>k),trivial⟩;simp only[Ag4,Ag3]at Y;refine AU ?_;obtain⟨H,d,rfl,dj⟩:=Y.oslen mh;refine Gq (cs':=[vI b.B,(.slice q m.length c),(.slice H X.length d),v7,v9,U,M]) O O O O GC.1 O Y (.tail (.tail (.tail .head))) O O λdk I dl=>AU ?_;refine Cj (AU ?_);have bz:=bm.nw;refine Dc E O O O mM O I (λah be=>Gi (St.all _) (bz.mono I.ea.1 I.ea.2) be) λah E dm dn b5 b0 b6 bf p=>?_;have ao:=p;have t:=I.join bf ao ⟨OS.flat (λ{_ _ _ _ _ _} k=>k),trivial⟩;simp only[Ag4,Ag3]at t;refine AU ?_;obtain⟨u,g,rfl,b7⟩:=t.oslen mh;refine Gq (cs':=[vI b.B,(.slice q m.length c),(.slice H X.length d),v7,(.slice u ah.length g),U,M]) O O O O sI.1 O t (.tail (.tail (.tail (.tail .head)))) O O λb8 j b9=>AU ?_;refine Cj (AU ?_);have bg:=bn.nw;refine Dc E O O O N9 O j (λZ ap=>B9 (St.all _) (bg.mono j.ea.1 j.ea.2) ap) λZ E ca cb cc b1 cd bh p=>?_;have aq:=p;have x:=j.join bh aq ⟨OS.flat (λ{_ _ _ _ _ _} k=>k),trivial⟩;simp only[Ag4,Ag3]at x;refine AU ?_;obtain⟨ab,J,rfl,ce⟩:=x.oslen mh;refine Gq (cs':=[vI b.B,(.slice q m.length c),(.slice H X.length d),v7,(.slice u ah.length g),(.slice ab Z.length J),M]) O O O O GC.1 O x (.tail (.tail (.tail (.tail (.tail .head))))) O O λcf l cg=>AU ?_;refine Cj (AU ?_);have bi:=bo.nw;refine Dc E O O O N9 O l (λak ar=>B9 (St.all _) (bi.mono l.ea.1 l.ea.2) ar) λak E ch ci cj b2 ck bj p=>?_;have au:=p;have y:=l.join bj au ⟨OS.flat (λ{_ _ _ _ _ _} k=>k),trivial⟩;simp only[Ag4,Ag3]at y;refine AU ?_;obtain⟨av,ai,rfl,cl⟩:=y.oslen mh;refine Gq (cs':=[vI b.B,(.slice q m.length c),(.slice H X.length d),v7,(.slice u ah.length g),(.slice ab Z.length J),(.slice av ak.length ai)]) O O O O GC.1 O y (.tail (.tail (.tail (.tail (.tail (.tail .head)))))) O O λcm aw cn=>AU ?_;have bk:=k8.nw;refine H5 O O O ON JB.1 O aw (.tail (.tail (.tail (.tail (.tail .head))))) O λco ax am=>AU ?_;refine CM (λaa ww A C=>?_);have ac:=ax.sel [4,3,2,1,0,0] 1 O;have bl:=bk.mono' am;have ay:=ac.drop (.tail (.tail (.tail (.tail (.tail .head)))));cases E;exact K0 A O C (Iv (Xu A C ac O (mt (mt (mt (mt (mt mh))))) JB.1 O) Kz) O ((((((bp.trans EX).trans EX).trans EX).trans EX).trans EX).trans am) ⟨_,_,_,_,_,_,O,r2,bl,ay⟩
def Up(hs:St S L h){i:Value}{l:BG}(p:Rd S h CD i l){b:A8}(q:Rd S h BZ j b){c:Int}(y:AB c){r:A8}(E:Iq N l b c=some r):
 CG prog 114 #[i,j,vI c] S h (λv S' h'=>v= .agg #[vI r.Z,vI r.Aa,.bool r.Ay,.bool r.Am]/\A8.ok r/\St S' (L) h'):=by
 refine CG.go 24 func114 O ntmps114 O λB=>?_;rw[Iq]at E;refine AU ?_;refine CC O p CE O hs λq1 S2 h3 Q e5 k6=>?_;have k7:=q.mono e5;obtain⟨rfl,⟨r9,U⟩⟩:=BZ.ex k7;refine OD O O O Q λs ae D af=>DT UE O D λt u k ag=>AU ?_;refine AT (λa w=>∃(z:Bool)(A:Bool),IV B S2 u (24,[]) a w [(6,vP t 0),(4,vP s 0)] (Bx t 107 [vI 0,vI 0,.bool false,.bool false]::Bx s 107 [vI b.Z,vI b.Aa,.bool z,.bool A]::L) λ_ _=>HM N b z A=some r) ?_ ?_
 ·refine AU ?_;refine AK O E (λV E=>?_) (λV E=>?_)
  ·refine AU ?_;refine Gq (cs':=[vI b.Z,vI b.Aa,.bool true,.bool b.Am]) O O O O Yw.1 O k (.tail .head) O O λah F W=>AU ?_;refine WF.nil (λm n d g=>?_);exact⟨true,b.Am,_,_,d.sub (kp [6,4] O),g,F,W,E⟩
  refine AU ?_;refine AK O E (λX E=>?_) (λX E=>?_)
  ·refine AU ?_;refine Gq (cs':=[vI b.Z,vI b.Aa,.bool false,.bool b.Am]) O O O O Yw.1 O k (.tail .head) O O λai G Y=>AU ?_;refine WF.nil (λm n d g=>?_);exact⟨false,b.Am,_,_,d.sub (kp [6,4] O),g,G,Y,E⟩
  refine AU ?_;refine It (λa w=>∃(C:Bool),IV B S2 u (24,[]) a w [(6,vP t 0),(4,vP s 0),(3,q1),(2,vI c),(14,.bool C)] (Bx t 107 [vI 0,vI 0,.bool false,.bool false]::Bx s 107 [vI b.Z,vI b.Aa,.bool b.Ay,.bool b.Am]::L) λ_ _=>H2 N l b c (HM N b) C=some r) ?_ ?_
  ·refine AK O E (λab E=>?_) (λab E=>?_)
   ·refine AU ?_;refine WF.nil (λm n d g=>?_);exact⟨(decide (c=2)),_,_,d.sub (kp [6,4,3,2,14] O),g,k,(CO.refl S2 u),E⟩
   refine AU ?_;refine WF.nil (λm n d g=>?_);exact⟨(decide (c=3)),_,_,d.sub (kp [6,4,3,2,14] O),g,k,(CO.refl S2 u),E⟩
  rintro m n⟨C,aj,ak,d,g,o,H,E⟩;refine AL ?_ d g;clear d g n m;rw[H2]at E;refine AK O E (λac E=>?_) (λac E=>?_)
  ·have am:=k6.nw;refine AU ?_;refine AK O E (λad E=>?_) (λad E=>?_)
   ·refine AU ?_;refine Gq (cs':=[vI b.Z,vI b.Aa,.bool b.Ay,.bool (decide (c=2))]) O O O O Yw.1 O o (.tail .head) O O λan I ao=>AU ?_;refine WF.nil (λm n d g=>?_);exact⟨b.Ay,(decide (c=2)),_,_,d.sub (kp [6,4] O),g,I,EX,E⟩
   refine AU ?_;refine WF.nil (λm n d g=>?_);exact⟨b.Ay,b.Am,_,_,d.sub (kp [6,4] O),g,o,H,E⟩
  refine AU ?_;refine WF.nil (λm n d g=>?_);exact⟨b.Ay,b.Am,_,_,d.sub (kp [6,4] O),g,o,H,E⟩
 rintro m n⟨z,A,ap,aq,d,g,J,ar,E⟩;refine AL ?_ d g;clear d g n m;rw[HM]at E;refine AU ?_;refine EM O O O O Ja.1 O J .head O λau K av=>AU ?_;refine CM (λm n d g=>?_);have x:=K.drop (.tail .head);have M:=x.drop .head;cases E;exact K0 d O g (Iv (Xu d g x O mh Ja.1 O) Kz) O EX ⟨O,⟨r9,U⟩,M⟩
def Lm(l:St S L h){c:Int}(i:AB c){b:Int}(g:AB b){a:Int}(d:AB a){r:Int}(E:I1 N c b a=some r):
 CG prog 14 #[vI c,vI b,vI a] S h (λv S' h'=>v=vI r/\AB r/\St S' (L) h'):=by
 refine CG.go 16 func14 O ntmps14 O λB=>?_;rw[I1]at E;refine AU ?_;refine AK O E (λj E=>?_) (λj E=>?_)
 ·exact RT
 refine AU ?_;refine AK O E (λk E=>?_) (λk E=>?_)
 ·exact RT
 exact RT
def Ws(hs:St S L h)(k:Rd S h CD g s){b:A8}(l:Rd S h BZ j b){c:Int}(d:AB c){r:A8}(E:Kb N s b c=some r):
 CG prog 115 #[g,j,vI c] S h (λv S' h'=>v= .agg #[vI r.Z,vI r.Aa,.bool r.Ay,.bool r.Am]/\A8.ok r/\St S' (L) h'):=by
 refine CG.go 16 func115 O ntmps115 O λB=>?_;rw[Kb]at E;refine AU ?_;refine CC O k CE O hs λq1 S2 h3 Q e5 k6=>?_;have k7:=l.mono e5;obtain⟨rfl,⟨r9,U⟩⟩:=BZ.ex k7;refine OD O O O Q λy ae z af=>DT UE O z λA C t ag=>?_;have V:=k6.nw;refine AU ?_;refine It (λa w=>∃(m:Int),IV B S2 C (16,[]) a w [(6,vP A 0),(4,vP y 0)] (Bx A 107 [vI 0,vI 0,.bool false,.bool false]::Bx y 107 [vI b.Z,vI m,.bool b.Ay,.bool b.Am]::L) λ_ _=>AB m/\M5 N b m=some r) ?_ ?_
 ·refine AK O E (λW E=>?_) (λW E=>?_)
  ·refine Cj ?_;have X:=V.fl Gz;have Y:=X.i;refine AU ?_;refine Dc E O O O bC O t (λx D=>Lm (St.all _) d (iq (n:=0) O) Y D) λx E ah ai aj F ak am p=>?_;obtain⟨rfl,ab,ad⟩:=p;refine AU ?_;refine Gq (cs':=[vI b.Z,vI x,.bool b.Ay,.bool b.Am]) O O O O Fl.1 O F (.tail .head) O O λan G ao=>AU ?_;refine WF.nil (λK M o q=>?_);exact⟨x,_,_,o.sub (kp [6,4] O),q,G,EX,ab,E⟩
  refine AU ?_;refine WF.nil (λK M o q=>?_);exact⟨b.Aa,_,_,o.sub (kp [6,4] O),q,t,(CO.refl S2 C),U,E⟩
 rintro K M⟨m,ap,aq,o,q,H,ar,ac,E⟩;refine AL ?_ o q;clear o q M K;rw[M5]at E;refine AU ?_;refine EM O O O O Ja.1 O H .head O λau I av=>AU ?_;refine CM (λK M o q=>?_);have u:=I.drop (.tail .head);have J:=u.drop .head;cases E;exact K0 o O q (Iv (Xu o q u O mh Ja.1 O) Kz) O EX ⟨O,⟨r9,ac⟩,J⟩
def Lf(j:St S L h){a:Int}(c:AB a){b:Int}(d:AB b){r:Int}(E:H3 N a b=some r):
 CG prog 187 #[vI a,vI b] S h (λv S' h'=>v=vI r/\AB r/\St S' (L) h'):=by
 refine CG.go 24 func187 O ntmps187 O λB=>?_;rw[H3]at E;refine AU ?_;refine AK O E (λg E=>?_) (λg E=>?_)
 ·exact RT
 refine AU ?_;refine AK O E (λi E=>?_) (λi E=>?_)
 ·exact RT
 exact RT
def VY(hs:St S L h){j:BG}(d:Rd S h CD b j){a:A8}(g:Rd S h BZ c a){r:A8}(E:I0 N j a=some r):
 CG prog 116 #[b,c] S h (λv S' h'=>v= .agg #[vI r.Z,vI r.Aa,.bool r.Ay,.bool r.Am]/\A8.ok r/\St S' (L) h'):=by
 refine CG.go 26 func116 O ntmps116 O λB=>?_;rw[I0]at E;refine AU ?_;refine CC O d CE O hs λq1 S2 h3 M e5 k6=>?_;have k7:=g.mono e5;obtain⟨rfl,⟨Q,q⟩⟩:=BZ.ex k7;refine OD O O O M λan ao s ap=>DT UE O s λaq ar k au=>AU ?_;refine AK O E (λU E=>?_) (λU E=>?_)
 ·refine AU ?_;refine EM O O O O Ja.1 O k .head O λav t aw=>AU ?_;refine CM (λaa ww u w=>?_);have l:=t.drop (.tail .head);have x:=l.drop .head;cases E;exact K0 u O w (Iv (Xu u w l O mh Ja.1 O) Kz) O EX ⟨O,⟨Q,q⟩,x⟩
 refine AU ?_;refine CP (.inr ⟨mo,Γ⟩) k (AU ?_);refine DO E O O O U1 O (λV y h' o=>Lf (St.all h') q Q y) λV E W=>?_;have X:=W;have z:=k6.nw;have Y:=z.fl Lj;have ab:=Y.i;refine AU ?_;refine DO E O O O U1 O (λac A h' o=>Lf (St.all h') (iq (n:=0) O) ab A) λac E ad=>?_;have ae:=ad;have af:=z.fl Lj;have ag:=af.i;refine AU ?_;refine DO E O O O bC O (λah C h' o=>Lm (St.all h') X ae ag C) λah E ai=>?_;have aj:=ai;refine AU ?_;refine BW (kp [5,4,3] O) λax D ay=>AU ?_;refine Cj (AU ?_);refine Dc E O O O Ux O D (λF G=>KA (St.all _) Q aj G) λF E az a0 a1 H a2 a3 p=>?_;obtain⟨rfl,ak,am⟩:=p;refine AU ?_;refine Gq (cs':=[vI F,vI a.Aa,.bool a.Ay,.bool a.Am]) O O O O Fl.1 O H (.tail .head) O O λa4 I a5=>AU ?_;refine EM O O O O Ja.1 O I .head O λa6 J a7=>AU ?_;refine CM (λaa ww u w=>?_);have m:=J.drop (.tail .head);have K:=m.drop .head;cases E;exact K0 u O w (Iv (Xu u w m O mh Ja.1 O) Kz) O EX ⟨O,⟨ak,q⟩,K⟩
def Qz{W:Value}{z:Value}{d:Value}{q:Value}(hs:St S (Bx y 112 [.string xj.b.G,X,vI xj.b.L,Y,W,Z,ab,ac,ad,ae,vI xj.b.M,z,t,u,C,H,vI xj.s.B,c,d,J,q,g,j,k,m,p]::OO AC 3 29 c xj.s.D::OS AC 3 d xj.s.P::OS BZ 107 q xj.s.Q::OS AC 3 g xj.s.K::OS AC 3 j xj.s.O::OS BY 116 k xj.moves::OS AC 3 m xj.peaks::OS A5 103 p xj.sent::L) h)(b7:xj.b.G.size<=maxLen)(b8:Sl S h A9.str X xj.b.I)(b9:AB xj.b.L)(ca:Sl S h B4 Y xj.b.A)(af:Sl S h CD W xj.b.E)(cb:Sl S h Hj Z xj.b.Af)(cc:Sl S h E7 ab xj.b.Ah)(cd:Sl S h HC ac xj.b.Ai)(ce:Sl S h Db ad xj.b.Ak)(cf:Sl S h AC ae xj.b.Aj)(a5:AB xj.b.M)(a6:Sl S h AC z xj.in_.U)(am:Sl S h Ct t xj.in_.Ab)(an:Sl S h Fj u xj.in_.Ac)(a7:Sl S h DU C xj.in_.V)(a8:Sl S h Di H xj.in_.Ad)(a9:AB xj.s.B)(ba:Sl S h A5 J xj.s.F){r:List A8}(E:Hn N xj=some r):
 CG prog 58 #[vP y 0] S h (λv S' h'=>∃aq:Value,v= .tuple #[]/\St S' (Bx y 112 [.string xj.b.G,X,vI xj.b.L,Y,W,Z,ab,ac,ad,ae,vI xj.b.M,z,t,u,C,H,vI xj.s.B,c,d,J,aq,g,j,k,m,p]::OO AC 3 29 c xj.s.D::OS AC 3 d xj.s.P::OS BZ 107 aq r::OS AC 3 g xj.s.K::OS AC 3 j xj.s.O::OS BY 116 k xj.moves::OS AC 3 m xj.peaks::OS A5 103 p xj.sent::L) h'):=by
 refine CG.go 135 func58 O ntmps58 O λB=>?_;rw[Hn]at E;refine AU ?_;refine AT (λa w=>∃(l2:List A8),IV B S h (135,[]) a w [(0,vP y 0)] (Bx y 112 [.string xj.b.G,X,vI xj.b.L,Y,W,Z,ab,ac,ad,ae,vI xj.b.M,z,t,u,C,H,vI xj.s.B,c,d,J,q,g,j,k,m,p]::OO AC 3 29 c xj.s.D::OS AC 3 d xj.s.P::OS BZ 107 q l2::OS AC 3 g xj.s.K::OS AC 3 j xj.s.O::OS BY 116 k xj.moves::OS AC 3 m xj.peaks::OS A5 103 p xj.sent::L) λ_ _=>Dk N xj l2=some r) ?_ ?_
 ·refine A0 (λn1=>λa w=>∃(i6:Int)(l8:List A8),IV B S h (135,[]) a w [(13,vI (↑xj.in_.Ab.length:Int)),(12,t),(0,vP y 0),(14,vI i6)] (Bx y 112 [.string xj.b.G,X,vI xj.b.L,Y,W,Z,ab,ac,ad,ae,vI xj.b.M,z,t,u,C,H,vI xj.s.B,c,d,J,q,g,j,k,m,p]::OO AC 3 29 c xj.s.D::OS AC 3 d xj.s.P::OS BZ 107 q l8::OS AC 3 g xj.s.K::OS AC 3 j xj.s.O::OS BY 116 k xj.moves::OS AC 3 m xj.peaks::OS A5 103 p xj.sent::L) λ_ _=>AB i6/\C5 N xj (Dk N xj) n1 i6 l8=some r) N ?_ ?_ ?_
  ·intro aa ww hf hw;exact⟨0,xj.s.Q,_,_,hf.sub (kp [13,12,0,14] O),hw,hs,(CO.refl S h),(iq (n:=0) O),E⟩
  ·rintro aa ww⟨_,_,_,_,_,_,_,_,_,E⟩;rw[C5]at E;cases E
  rintro n1 aa ww⟨i6,l8,S9,dx,hf,hw,az,cg,r7,E⟩;refine AL ?_ hf hw;clear hf hw ww aa;rw[C5]at E;refine AU ?_;refine AK O E (λdy E=>?_) (λdy E=>?_)
  ·refine AU ?_;refine AT (λa w=>∃(aw:List A8),IV B S9 dx (135,[]) a w [(13,vI (↑xj.in_.Ab.length:Int)),(12,t),(0,vP y 0),(14,vI i6)] (Bx y 112 [.string xj.b.G,X,vI xj.b.L,Y,W,Z,ab,ac,ad,ae,vI xj.b.M,z,t,u,C,H,vI xj.s.B,c,d,J,q,g,j,k,m,p]::OO AC 3 29 c xj.s.D::OS AC 3 d xj.s.P::OS BZ 107 q aw::OS AC 3 g xj.s.K::OS AC 3 j xj.s.O::OS BY 116 k xj.moves::OS AC 3 m xj.peaks::OS A5 103 p xj.sent::L) λ_ _=>HU N i6 (C5 N xj (Dk N xj) n1) aw=some r) ?_ ?_
   ·refine AU ?_;have dz:=am.mono' cg;refine BE E O O dz iK.1 O λch E gm d0=>?_;obtain⟨gn,_,d1⟩:=d0.lv;refine AU ?_;refine DT uS O az λgp gq ci d2=>?_;have d3:=d1.mono d2;obtain⟨rfl,⟨d4,d5⟩⟩:=Ct.ex d3;refine EM O O O O vK.1 O ci .head O λgr cj gs=>AU ?_;refine CP (.inr ⟨mo,Γ⟩) cj ?_;have d6:=af.nw;have d7:=d6.le;refine AU ?_;refine BD E O O O QD O (λd8 ck h' o=>IP (St.all h') d5 (Mk d7) ck) λd8 E=>BW (kp [26,3,13,12,0,14] O) λgu ai gv=>AK O E (λd9 E=>?_) (λd9 E=>?_)
    ·refine Na 29 mo Γ O ai (AU ?_);have ea:=af.nw;refine BE E O O ea PU.1 O λgw E gx eb=>?_;obtain⟨gy,_,ec⟩:=eb.lv;refine AU ?_;obtain⟨gz,cl,E⟩:=bd E;refine BU ai (mt (mt (mt (mt mh)))) O O RH.1 cl O λg0 cm=>?_;obtain⟨g1,cn,E⟩:=bd E;have ed:=ai.epAt (mt (mt (mt (mt mh)))) cn FB.id cm;refine Lh OK (λ_ x=>x) O ed Ja.1 CE O λg2 ee=>AU ?_;refine DO E O O O zY O (λbb co h' o=>Up (St.all h') (ec.mono (o.all ai.1)) (ee.mono (o.all ai.1)) d4 co) λbb E ef=>?_;obtain⟨eg,eh⟩:=ef;obtain⟨g3,cp,E⟩:=bd E;refine BU ai (mt (mt (mt (mt mh)))) O O RH.1 cp O λg4 cq=>Lo λg5 cr g6=>?_;obtain⟨ei,cs,E⟩:=bd E;refine Ei (r:=BZ) (l:=l8) (i:=ch.Ar) (x:=ei) O O (BZ.mk (x:=bb) ⟨eg,eh⟩) cq cs NQ.id Ja.1 CE cr (.tail (.tail (.tail (.tail .head)))) λg7 ct g8=>AU ?_;refine WF.nil (λaa ww hf hw=>?_);have cu:=ct.sel [1,1,1,1,1,1,1,1,1] 1 O;exact⟨(upd l8 ch.Ar bb),_,_,hf.sub (kp [13,12,0,14] O),hw,cu,EX,E⟩
    refine AU ?_;refine WF.nil (λaa ww hf hw=>?_);have cv:=ai.sel [1,1,1,1,1,1,1,1,1] 1 O;exact⟨l8,_,_,hf.sub (kp [13,12,0,14] O),hw,cv,EX,E⟩
   rintro aa ww⟨aw,g9,ha,hf,hw,cw,hb,E⟩;refine AL ?_ hf hw;clear hf hw ww aa;rw[HU]at E;refine AU ?_;refine WF.nil (λaa ww hf hw=>?_);exact⟨(BO (i6+1)),aw,_,_,hf.sub (kp [13,12,0,14] O),hw,cw,EX,(BQ _),E⟩
  refine BL O (λaa ww hf hw=>?_);exact⟨l8,_,_,hf.sub (kp [0] O),hw,az,cg,E⟩
 rintro aa ww⟨l2,bc,be,hf,hw,cx,ej,E⟩;refine AL ?_ hf hw;clear hf hw ww aa;rw[Dk]at E;have ek:=an.mono' ej;refine AU ?_;refine AT (λa w=>∃(ax:List A8),IV B bc be (135,[]) a w [(0,vP y 0)] (Bx y 112 [.string xj.b.G,X,vI xj.b.L,Y,W,Z,ab,ac,ad,ae,vI xj.b.M,z,t,u,C,H,vI xj.s.B,c,d,J,q,g,j,k,m,p]::OO AC 3 29 c xj.s.D::OS AC 3 d xj.s.P::OS BZ 107 q ax::OS AC 3 g xj.s.K::OS AC 3 j xj.s.O::OS BY 116 k xj.moves::OS AC 3 m xj.peaks::OS A5 103 p xj.sent::L) λ_ _=>Dj N xj ax=some r) ?_ ?_
 ·refine A0 (λn4=>λa w=>∃(ao:Int)(ap:List A8),IV B bc be (135,[]) a w [(62,vI (↑xj.in_.Ac.length:Int)),(61,u),(0,vP y 0),(63,vI ao)] (Bx y 112 [.string xj.b.G,X,vI xj.b.L,Y,W,Z,ab,ac,ad,ae,vI xj.b.M,z,t,u,C,H,vI xj.s.B,c,d,J,q,g,j,k,m,p]::OO AC 3 29 c xj.s.D::OS AC 3 d xj.s.P::OS BZ 107 q ap::OS AC 3 g xj.s.K::OS AC 3 j xj.s.O::OS BY 116 k xj.moves::OS AC 3 m xj.peaks::OS A5 103 p xj.sent::L) λ_ _=>AB ao/\C4 N xj (Dj N xj) n4 ao ap=some r) N ?_ ?_ ?_
  ·intro aa ww hf hw;exact⟨0,l2,_,_,hf.sub (kp [62,61,0,63] O),hw,cx,(CO.refl bc be),(iq (n:=0) O),E⟩
  ·rintro aa ww⟨_,_,_,_,_,_,_,_,_,E⟩;rw[C4]at E;cases E
  rintro n4 aa ww⟨ao,ap,el,em,hf,hw,a0,cy,hc,E⟩;refine AL ?_ hf hw;clear hf hw ww aa;rw[C4]at E;refine AU ?_;refine AK O E (λen E=>?_) (λen E=>?_)
  ·refine AU ?_;refine AT (λa w=>∃(ay:List A8),IV B el em (135,[]) a w [(62,vI (↑xj.in_.Ac.length:Int)),(61,u),(0,vP y 0),(63,vI ao)] (Bx y 112 [.string xj.b.G,X,vI xj.b.L,Y,W,Z,ab,ac,ad,ae,vI xj.b.M,z,t,u,C,H,vI xj.s.B,c,d,J,q,g,j,k,m,p]::OO AC 3 29 c xj.s.D::OS AC 3 d xj.s.P::OS BZ 107 q ay::OS AC 3 g xj.s.K::OS AC 3 j xj.s.O::OS BY 116 k xj.moves::OS AC 3 m xj.peaks::OS A5 103 p xj.sent::L) λ_ _=>HT N ao (C4 N xj (Dj N xj) n4) ay=some r) ?_ ?_
   ·refine AU ?_;have eo:=ek.mono' cy;refine BE E O O eo iJ.1 O λcz E hd ep=>?_;obtain⟨eq,_,c0⟩:=ep.lv;refine AU ?_;refine DT uR O a0 λer es bf c1=>?_;have c2:=c0.mono c1;obtain⟨rfl,⟨c3,c4⟩⟩:=Fj.ex c2;refine EM O O O O vJ.1 O bf .head O λeu bg ev=>AU ?_;refine CP (.inr ⟨mo,Γ⟩) bg ?_;have c5:=af.nw;have c6:=c5.le;refine AU ?_;refine BD E O O O QD O (λc7 bh h' o=>IP (St.all h') c3 (Mk c6) bh) λc7 E=>BW (kp [75,5,62,61,0,63] O) λew ag ey=>AK O E (λc8 E=>?_) (λc8 E=>?_)
    ·refine Na 29 mo Γ O ag (AU ?_);have c9:=af.nw;refine BE E O O c9 PU.1 O λez E e0 da=>?_;obtain⟨e1,_,db⟩:=da.lv;refine AU ?_;obtain⟨e2,bi,E⟩:=bd E;refine BU ag (mt (mt (mt (mt mh)))) O O RH.1 bi O λe3 bj=>?_;obtain⟨e4,bk,E⟩:=bd E;have dc:=ag.epAt (mt (mt (mt (mt mh)))) bk FB.id bj;refine Lh OK (λ_ x=>x) O dc Ja.1 CE O λe5 dd=>AU ?_;refine DO E O O O zX O (λau bl h' o=>Ws (St.all h') (db.mono (o.all ag.1)) (dd.mono (o.all ag.1)) c4 bl) λau E de=>?_;obtain⟨df,dg⟩:=de;obtain⟨e6,bm,E⟩:=bd E;refine BU ag (mt (mt (mt (mt mh)))) O O RH.1 bm O λe7 bn=>Lo λe8 bo e9=>?_;obtain⟨dh,bp,E⟩:=bd E;refine Ei (r:=BZ) (l:=ap) (i:=cz.Ar) (x:=dh) O O (BZ.mk (x:=au) ⟨df,dg⟩) bn bp NQ.id Ja.1 CE bo (.tail (.tail (.tail (.tail .head)))) λfa bq fb=>AU ?_;refine WF.nil (λaa ww hf hw=>?_);have br:=bq.sel [1,1,1,1,1,1,1,1,1] 1 O;exact⟨(upd ap cz.Ar au),_,_,hf.sub (kp [62,61,0,63] O),hw,br,EX,E⟩
    refine AU ?_;refine WF.nil (λaa ww hf hw=>?_);have bs:=ag.sel [1,1,1,1,1,1,1,1,1] 1 O;exact⟨ap,_,_,hf.sub (kp [62,61,0,63] O),hw,bs,EX,E⟩
   rintro aa ww⟨ay,fc,fd,hf,hw,bt,fe,E⟩;refine AL ?_ hf hw;clear hf hw ww aa;rw[HT]at E;refine AU ?_;refine WF.nil (λaa ww hf hw=>?_);exact⟨(BO (ao+1)),ay,_,_,hf.sub (kp [62,61,0,63] O),hw,bt,EX,(BQ _),E⟩
  refine BL O (λaa ww hf hw=>?_);exact⟨ap,_,_,hf.sub (kp [0] O),hw,a0,cy,E⟩
 rintro aa ww⟨ax,a1,a2,hf,hw,bu,ff,E⟩;refine AL ?_ hf hw;clear hf hw ww aa;rw[Dj]at E;have di:=af.nw;refine AU ?_;refine AW (A0 (λn6=>λa w=>∃(aj:Int)(ak:List A8),IV B a1 a2 (135,[]) a w [(111,vI (↑xj.b.E.length:Int)),(110,W),(0,vP y 0),(112,vI aj)] (Bx y 112 [.string xj.b.G,X,vI xj.b.L,Y,W,Z,ab,ac,ad,ae,vI xj.b.M,z,t,u,C,H,vI xj.s.B,c,d,J,q,g,j,k,m,p]::OO AC 3 29 c xj.s.D::OS AC 3 d xj.s.P::OS BZ 107 q ak::OS AC 3 g xj.s.K::OS AC 3 j xj.s.O::OS BY 116 k xj.moves::OS AC 3 m xj.peaks::OS A5 103 p xj.sent::L) λ_ _=>AB aj/\D3 N xj n6 aj ak=some r) N ?_ ?_ ?_)
 ·intro aa ww hf hw;exact⟨0,ax,_,_,hf.sub (kp [111,110,0,112] O),hw,bu,(CO.refl a1 a2),(iq (n:=0) O),E⟩
 ·rintro aa ww⟨_,_,_,_,_,_,_,_,_,E⟩;rw[D3]at E;cases E
 rintro n6 aa ww⟨aj,ak,fg,fh,hf,hw,av,dj,fi,E⟩;refine AL ?_ hf hw;clear hf hw ww aa;rw[D3]at E;refine AU ?_;refine AK O E (λdk E=>?_) (λdk E=>?_)
 ·refine AU ?_;refine AW (AU ?_);have dl:=di.mono' dj;refine BE E O O dl PU.1 O λfj E fk dm=>?_;obtain⟨fl,_,dn⟩:=dm.lv;refine AU ?_;refine DT Po O av λfm fn bv dp=>AU ?_;have a3:=dn.mono dp;obtain⟨fo,fp,fq,rfl,fr,fs,ft,fu,fv,fw,fx,fy,fz,f0,f1,f2,f3,f4,f5,f6,f7,f8⟩:=CD.ex a3;refine H5 O O O ON Pv.1 O bv .head O λf9 ah dq=>AU ?_;refine Na 17 mo Γ O ah (AU ?_);obtain⟨ga,bw,E⟩:=bd E;refine BU ah (mt (mt (mt (mt mh)))) O O RH.1 bw O λgb bx=>?_;obtain⟨gc,bz,E⟩:=bd E;have dr:=ah.epAt (mt (mt (mt (mt mh)))) bz FB.id bx;refine Lh OK (λ_ x=>x) O dr Ja.1 CE O λge ds=>?_;have ar:=a3.mono dq;obtain⟨a4,b0,E⟩:=bd E;refine Od O O O zW O (λh' o=>VY (St.all h') (ar.mono (o.all ah.1)) (ds.mono (o.all ah.1)) b0) λdt=>?_;obtain⟨du,dv⟩:=dt;obtain⟨gf,b1,E⟩:=bd E;refine BU ah (mt (mt (mt (mt mh)))) O O RH.1 b1 O λgg b2=>Lo λgh b3 gi=>?_;obtain⟨dw,b4,E⟩:=bd E;refine Ei (r:=BZ) (l:=ak) (i:=aj) (x:=dw) O O (BZ.mk (x:=a4) ⟨du,dv⟩) b2 b4 NQ.id Ja.1 CE b3 (.tail (.tail (.tail (.tail .head)))) λgj b5 gl=>AU ?_;refine BF (AU ?_);refine WF.nil (λaa ww hf hw=>?_);have b6:=b5.sel [1,1,1,1,1,1,1,1,1] 1 O;exact⟨(BO (aj+1)),(upd ak aj a4),_,_,hf.sub (kp [111,110,0,112] O),hw,b6,EX,(BQ _),E⟩
 refine IA O (WF.nil (λaa ww hf hw=>?_));cases E;exact K0 hf O hw Kz O EX ⟨_,O,av⟩
def SD(s:St S L h){g:xq}(d:Sl S h AC c g){a:Int}(j:AB a){r:Int}(E:Lw N g a=some r):
 CG prog 188 #[c,vI a] S h (λv S' h'=>v=vI r/\AB r/\St S' (L) h'):=by
 refine CG.go 24 func188 O ntmps188 O λB=>?_;rw[Lw]at E;refine AU ?_;obtain⟨m,b,E⟩:=bd E;refine A3 6 19 (.bool m) ?_ ?_
 ·cases l:((decide (a<0))||(decide ((↑g.length:Int)<=a)))
  ·have b:=Hl l b;refine AU ?_;refine BE b O O d CW.1 O λt b u w=>AU ?_;cases b;exact A4 O
  have b:=Hk l b;cases b;exact BK O O
 refine AU ?_;refine AK O E (λn E=>?_) (λn E=>?_)
 ·exact RT
 refine AU ?_;refine BE E O O d CW.1 O λo E p k=>?_;have q:=k.i;exact RT
def VS(hs:St S L h){c:xq}(j:Sl S h AC n c){b:Int}(m:AB b){d:Int}(F:AB d){g:Int}(s:AB g){r:xq}(E:NL N c b d g=some r):
 CG prog 117 #[n,vI b,vI d,vI g] S h (λv S' h'=>St S' (OS AC 3 v r::L) h'):=by
 refine CG.go 56 func117 O ntmps117 O λB=>?_;rw[NL]at E;refine AU ?_;obtain⟨ag,E⟩:=MF E;refine L4 (r:=AC) (zx:=0) JY O ⟨O,by unfold AB;omega⟩ O O ag O O hs λv3 h4 ah e6=>AU ?_;have k7:=j.mono' e6;refine XM (r:=AC) (l:=(List.replicate ((↑c.length:Int):Int).toNat (0:Int))) (xs:=c) O O CW.1 (Sl.src k7) O ah .head λh8 G av=>AU ?_;refine CP (.inl O) G (AU ?_);have ai:=j.nw;refine DO E O O O mF O (λt H h' o=>SD (St.all h') (ai.mono' (o.all G.1)) m H) λt E aj=>?_;have ak:=aj;refine XE O O O (AU ?_);refine BW (kp [10,9,0,1,2] O) λI k aw=>?_;have ax:=j.nw;refine AU ?_;refine It (λa w=>∃(y:xq),IV B S I (56,[]) a w [(9,v3)] (OS AC 3 v3 y::L) λ_ _=>MV N y=some r) ?_ ?_
 ·refine AK O E (λal E=>?_) (λal E=>?_)
  ·refine AU ?_;obtain⟨ay,J,E⟩:=bd E;refine BU k mh O O CW.1 J O λaz K=>?_;obtain⟨z,M,E⟩:=bd E;have am:=k.epAt mh M FB.id K;refine FA H4 (λ_ x=>x) O am Fl.1 O λa0=>AU ?_;obtain⟨a1,Q,E⟩:=bd E;refine BU k mh O O CW.1 Q O λa2 U=>AU ?_;obtain⟨an,V,E⟩:=bd E;refine Ei (r:=AC) (l:=(Qp (List.replicate ((↑c.length:Int):Int).toNat (0:Int)) c)) (i:=b) (x:=an) O O (⟨_,O,O,(BQ _)⟩:Rd _ _ AC _ (BO (z-(min g t)))) U V NQ.id Fl.1 (λ_=>rfl) k .head λa3 q a4=>AU ?_;refine Cj (AU ?_);obtain⟨a5,W,E⟩:=bd E;refine BU q mh O O CW.1 W O λa6 X=>?_;obtain⟨a7,Y,E⟩:=bd E;have ao:=q.epAt mh Y FB.id X;refine FA H4 (λ_ x=>x) O ao Fl.1 O λap=>AU ?_;refine Dc E O O O Ux O q (λA Z=>KA (St.all _) ap (Ox s ak) Z) λA E a8 a9 ba u bb bc p=>?_;obtain⟨rfl,aq,au⟩:=p;refine AU ?_;obtain⟨be,ab,E⟩:=bd E;refine BU u mh O O CW.1 ab O λbf ac=>AU ?_;obtain⟨ar,ad,E⟩:=bd E;refine Ei (r:=AC) (l:=(upd (Qp (List.replicate ((↑c.length:Int):Int).toNat (0:Int)) c) b (BO (z-(min g t))))) (i:=d) (x:=ar) O O (⟨_,O,O,aq⟩:Rd _ _ AC _ A) ac ad NQ.id Fl.1 (λ_=>rfl) u .head λbg ae bh=>AU ?_;refine WF.nil (λaa ww C D=>?_);exact⟨(upd (upd (Qp (List.replicate ((↑c.length:Int):Int).toNat (0:Int)) c) b (BO (z-(min g t)))) d A),_,_,C.sub (kp [9] O),D,ae,EX,E⟩
  refine AU ?_;refine WF.nil (λaa ww C D=>?_);exact⟨(Qp (List.replicate ((↑c.length:Int):Int).toNat (0:Int)) c),_,_,C.sub (kp [9] O),D,k,(CO.refl S I),E⟩
 rintro aa ww⟨y,bi,bj,C,D,af,bk,E⟩;refine AL ?_ C D;clear C D ww aa;rw[MV]at E;refine AU ?_;cases E;exact GF af O O EX
end Go.Proofs.YtabonambpbofgaaGreat
