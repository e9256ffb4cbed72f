import Derived.Test.YtabonambpbofgaaGreatQInst
import Derived.Test.YtabonambpbofgaaGreatQForms
import Derived.Test.YtabonambpbofgaaGreatQWalk1
import Derived.Test.YtabonambpbofgaaGreatQSortD
import Derived.Test.YtabonambpbofgaaGreatQWalk4
import Derived.Test.YtabonambpbofgaaGreatQWalk7
import Derived.Test.YtabonambpbofgaaGreatQWalk9
import Derived.Test.YtabonambpbofgaaGreatQWalk11
namespace Go.Proofs.YtabonambpbofgaaGreat
set_option linter.all false
open Go.RowKit
open Go.Proofs.Tryz
set_option maxRecDepth 10000
set_option maxHeartbeats 20000000
variable {H J X Y Z a6 ab ac ad ae af ag ai aj ak am an ao ap aq ar au av aw ax c d j m p t u w:Value}{a ah b c1_ g r:Int}{xj:AS}{l n:BG}{k:Int->Option Bool}
variable{N:Nat}{S:Nat->Prop}{L:List HP}{h:AV}
def Ot(hs:St S L h){d:xq}(s:Sl S h AC m d){b:Value}{c:xq}(g:Sl S h AC b c){r:xq}(E:JK N d c=some r):
 CG prog 221 #[m,b] S h (λv S' h'=>St S' (OS AC 3 v r::L) h'):=by
 refine CG.go 30 func221 O ntmps221 O λB=>?_;rw[JK]at E;refine AU ?_;obtain⟨U,E⟩:=MF E;refine L4 (r:=AC) (zx:=0) JY O ⟨O,by unfold AB;omega⟩ O O U O O hs λQ h4 V e6=>AU ?_;have k7:=s.mono' e6;refine XM (r:=AC) (l:=(List.replicate ((↑d.length:Int):Int).toNat (0:Int))) (xs:=d) O O CW.1 (Sl.src k7) O V .head λW X ae=>?_;have Y:=g.nw;refine AU ?_;refine AT (λa w=>∃(t:xq),IV B S W (30,[]) a w [(5,Q)] (OS AC 3 Q t::L) λ_ _=>Ia N t=some r) ?_ ?_
 ·refine A0 (λn1=>λa w=>∃(k:Int)(o:xq),IV B S W (30,[]) a w [(15,vI (↑c.length:Int)),(14,b),(5,Q),(16,vI k)] (OS AC 3 Q o::L) λ_ _=>AB k/\Gu N c (Ia N) n1 k o=some r) N ?_ ?_ ?_
  ·intro u y p q;exact⟨0,(Qp (List.replicate ((↑d.length:Int):Int).toNat (0:Int)) d),_,_,p.sub (kp [15,14,5,16] O),q,X,(CO.refl S W),(iq (n:=0) O),E⟩
  ·rintro u y⟨_,_,_,_,_,_,_,_,_,E⟩;rw[Gu]at E;cases E
  rintro n1 u y⟨k,o,af,ag,p,q,j,z,ah,E⟩;refine AL ?_ p q;clear p q y u;rw[Gu]at E;refine AU ?_;refine AK O E (λZ E=>?_) (λZ E=>?_)
  ·refine AU ?_;refine AW (AU ?_);have ab:=Y.mono' z;refine BE E O O ab CW.1 O λA E ai aj=>AU ?_;obtain⟨ak,C,E⟩:=bd E;refine BU j mh O O CW.1 C O λal D=>?_;obtain⟨F,G,E⟩:=bd E;have ac:=j.epAt mh G FB.id D;refine FA H4 (λ_ x=>x) O ac Fl.1 O λam=>AU ?_;obtain⟨an,H,E⟩:=bd E;refine BU j mh O O CW.1 H O λao I=>AU ?_;obtain⟨ad,J,E⟩:=bd E;refine Ei (r:=AC) (l:=o) (i:=k) (x:=ad) O O (⟨_,O,O,(BQ _)⟩:Rd _ _ AC _ (BO (F-A))) I J NQ.id Fl.1 (λ_=>rfl) j .head λap K aq=>AU ?_;refine BF (AU ?_);refine WF.nil (λu y p q=>?_);exact⟨(BO (k+1)),(upd o k (BO (F-A))),_,_,p.sub (kp [15,14,5,16] O),q,K,EX,(BQ _),E⟩
  refine BL O (λu y p q=>?_);exact⟨o,_,_,p.sub (kp [5] O),q,j,z,E⟩
 rintro u y⟨t,ar,au,p,q,M,av,E⟩;refine AL ?_ p q;clear p q y u;rw[Ia]at E;refine AU ?_;cases E;exact GF M O O EX
def VT(hs:St S L h){c:xq}(n:Sl S h AC d c)(g:AB b){j:Int}(t:AB j){r:xq×xq}(E:NM N c b j=some r):
 CG prog 191 #[d,vI b,vI j] S h (λv S' h'=>∃A C:Value,v= .tuple #[A,C]/\St S' (OS AC 3 A r.1::OS AC 3 C r.2::L) h'):=by
 refine CG.go 27 func191 O ntmps191 O λB=>?_;rw[NM]at E;refine AU ?_;obtain⟨W,E⟩:=MF E;refine L4 (r:=AC) (zx:=0) JY O ⟨O,by unfold AB;omega⟩ O O W O O hs λv3 h4 D e6=>AU ?_;refine CP (.inl O) D (AU ?_);have k7:=n.mono' e6;refine DO E O O O mF O (λX Y h' o=>SD (St.all h') (k7.mono' (o.all D.1)) g Y) λX E r9=>?_;have Z:=r9;refine XE O O O (AU ?_);refine BW (kp [8,6,0,1] O) λF q aj=>AU ?_;refine It (λa w=>∃(z:xq),IV B S F (27,[]) a w [(6,v3),(0,d)] (OS AC 3 v3 z::L) λ_ _=>KK N c z=some r) ?_ ?_
 ·refine AK O E (λab E=>?_) (λab E=>?_)
  ·refine AU ?_;obtain⟨ak,G,E⟩:=bd E;refine BU q mh O O CW.1 G O λal H=>AU ?_;obtain⟨ac,I,E⟩:=bd E;refine Ei (r:=AC) (l:=(List.replicate ((↑c.length:Int):Int).toNat (0:Int))) (i:=b) (x:=ac) O O (⟨_,O,O,(Ox t Z)⟩:Rd _ _ AC _ (min j X)) H I NQ.id Fl.1 (λ_=>rfl) q .head λam J ad=>AU ?_;refine WF.nil (λU V s u=>?_);exact⟨(upd (List.replicate ((↑c.length:Int):Int).toNat (0:Int)) b (min j X)),_,_,s.sub (kp [6,0] O),u,J,ad,E⟩
  refine AU ?_;refine WF.nil (λU V s u=>?_);exact⟨(List.replicate ((↑c.length:Int):Int).toNat (0:Int)),_,_,s.sub (kp [6,0] O),u,q,(CO.refl S F),E⟩
 rintro U V⟨z,an,ao,s,u,m,ap,E⟩;refine AL ?_ s u;clear s u V U;rw[KK]at E;refine AU ?_;refine Cj (AU ?_);have ae:=n.nw;refine Dc E O O O lY O m (λaf K=>Ot (St.all _) (ae.mono m.ea.1 m.ea.2) (m.oslAll mh) K) λaf E aq ar au ai ag ah p=>?_;have M:=p;have y:=m.join ah M ⟨OS.flat (λ{_ _ _ _ _ _} k=>k),trivial⟩;simp only[Ag4,Ag3]at y;refine AU ?_;refine CM (λU V s u=>?_);have Q:=y.sel [1,0] 0 O;cases E;exact K0 s O u (Iv (KR s (v:=_) O) (Iv (KR s (v:=_) O) Kz)) O ((e6.trans EX).trans ag) ⟨_,_,O,Q⟩
def PZ(o:St S L h){a:Value}{b:xq}(c:Sl S h AC a b){c1_:FO}(g:Pt S h DU d c1_){r:xq×xq}(E:EN N c1_ b=some r):
 CG prog 190 #[a,d] S h (λv S' h'=>∃l m:Value,v= .tuple #[l,m]/\St S' (OS AC 3 l r.1::OS AC 3 m r.2::L) h'):=by
 refine CG.go 13 func190 O ntmps190 O λB=>?_;rw[EN]at E;refine AU ?_;refine Cj ?_;have x:=g.fl RK;have y:=x.i;have z:=g.fl FO.f_Litres;have A:=z.i;refine AU ?_;refine Dc E O O O yS O o (λC q=>VT (St.all _) (c.mono o.ea.1 o.ea.2) y A q) λC E I J D w s t p=>?_;obtain⟨F,G,rfl,n⟩:=p;have j:=o.join t n ⟨OS.flat (λ{_ _ _ _ _ _} k=>k),⟨OS.flat (λ{_ _ _ _ _ _} k=>k),trivial⟩⟩;simp only[Ag4,Ag3]at j;refine AU ?_;refine CM (λK M u H=>?_);cases E;exact K0 u O H (Iv (KR u (v:=_) O) (Iv (KR u (v:=_) O) Kz)) O s ⟨_,_,O,j⟩
def Qw{af:Nat}{W:Value}{z:Value}{g:Value}{i:Value}{k:Value}{q:Value}(hs:St S (Bx af 112 [.string xj.b.G,W,vI xj.b.L,X,Y,Z,ab,ac,ad,ae,vI xj.b.M,u,z,H,t,J,vI xj.s.B,c,d,g,i,j,k,m,p,q]::OS (A9.sl AC) 29 c xj.s.D::OS AC 3 d xj.s.P::OS A5 103 g xj.s.F::OS BZ 107 i xj.s.Q::OS AC 3 j xj.s.K::OS AC 3 k xj.s.O::OS BY 116 m xj.moves::OS AC 3 p xj.peaks::OS A5 103 q xj.sent::L) h)(a8:xj.b.G.size<=maxLen)(ap:Sl S h A9.str W xj.b.I)(a9:AB xj.b.L)(ai:Sl S h B4 X xj.b.A)(ba:Sl S h CD Y xj.b.E)(bb:Sl S h Hj Z xj.b.Af)(bc:Sl S h E7 ab xj.b.Ah)(be:Sl S h HC ac xj.b.Ai)(bf:Sl S h Db ad xj.b.Ak)(bg:Sl S h AC ae xj.b.Aj)(ay:AB xj.b.M)(az:Sl S h AC u xj.in_.U)(a1:Sl S h Ct z xj.in_.Ab)(a2:Sl S h Fj H xj.in_.Ac)(an:Sl S h DU t xj.in_.V)(a3:Sl S h Di J xj.in_.Ad)(a4:AB xj.s.B){aj:Int}(b1:AB aj){r:List AD}(E:Jt N xj aj=some r):
 CG prog 122 #[vP af 0,vI aj] S h (λv S' h'=>St S' (OS A6 194 v r::Bx af 112 [.string xj.b.G,W,vI xj.b.L,X,Y,Z,ab,ac,ad,ae,vI xj.b.M,u,z,H,t,J,vI xj.s.B,c,d,g,i,j,k,m,p,q]::OS (A9.sl AC) 29 c xj.s.D::OS AC 3 d xj.s.P::OS A5 103 g xj.s.F::OS BZ 107 i xj.s.Q::OS AC 3 j xj.s.K::OS AC 3 k xj.s.O::OS BY 116 m xj.moves::OS AC 3 p xj.peaks::OS A5 103 q xj.sent::L) h'):=by
 refine CG.go 85 func122 O ntmps122 O λB=>?_;rw[Jt]at E;refine AU ?_;refine AT (λa w=>∃(v2:Value)(l3:List AD),IV B S h (85,[]) a w [(5,v2)] (OS A6 194 v2 l3::Bx af 112 [.string xj.b.G,W,vI xj.b.L,X,Y,Z,ab,ac,ad,ae,vI xj.b.M,u,z,H,t,J,vI xj.s.B,c,d,g,i,j,k,m,p,q]::OS (A9.sl AC) 29 c xj.s.D::OS AC 3 d xj.s.P::OS A5 103 g xj.s.F::OS BZ 107 i xj.s.Q::OS AC 3 j xj.s.K::OS AC 3 k xj.s.O::OS BY 116 m xj.moves::OS AC 3 p xj.peaks::OS A5 103 q xj.sent::L) λ_ _=>D2 N l3=some r) ?_ ?_
 ·refine A0 (λn1=>λa w=>∃(v8:Value)(l9:List AD)(ao:Int),IV B S h (85,[]) a w [(13,vI (↑xj.in_.V.length:Int)),(12,t),(0,vP af 0),(1,vI aj),(5,v8),(14,vI ao)] (OS A6 194 v8 l9::Bx af 112 [.string xj.b.G,W,vI xj.b.L,X,Y,Z,ab,ac,ad,ae,vI xj.b.M,u,z,H,t,J,vI xj.s.B,c,d,g,i,j,k,m,p,q]::OS (A9.sl AC) 29 c xj.s.D::OS AC 3 d xj.s.P::OS A5 103 g xj.s.F::OS BZ 107 i xj.s.Q::OS AC 3 j xj.s.K::OS AC 3 k xj.s.O::OS BY 116 m xj.moves::OS AC 3 p xj.peaks::OS A5 103 q xj.sent::L) λ_ _=>AB ao/\Cn N xj aj (D2 N) n1 l9 ao=some r) N ?_ ?_ ?_
  ·intro aa ww hf hw;have bh:=hs.nil A6 194;exact⟨(vN),([]:List AD),0,_,_,hf.sub (kp [13,12,0,1,5,14] O),hw,bh,(CO.refl S h),(iq (n:=0) O),E⟩
  ·rintro aa ww⟨_,_,_,_,_,_,_,_,_,_,E⟩;rw[Cn]at E;cases E
  rintro n1 aa ww⟨v8,l9,ao,b2,b3,hf,hw,av,bi,c1,E⟩;refine AL ?_ hf hw;clear hf hw ww aa;rw[Cn]at E;refine AU ?_;refine AK O E (λb4 E=>?_) (λb4 E=>?_)
  ·refine AU ?_;refine AT (λa w=>∃(aq:Value)(ar:List AD),IV B b2 b3 (85,[]) a w [(13,vI (↑xj.in_.V.length:Int)),(12,t),(0,vP af 0),(1,vI aj),(14,vI ao),(5,aq)] (OS A6 194 aq ar::Bx af 112 [.string xj.b.G,W,vI xj.b.L,X,Y,Z,ab,ac,ad,ae,vI xj.b.M,u,z,H,t,J,vI xj.s.B,c,d,g,i,j,k,m,p,q]::OS (A9.sl AC) 29 c xj.s.D::OS AC 3 d xj.s.P::OS A5 103 g xj.s.F::OS BZ 107 i xj.s.Q::OS AC 3 j xj.s.K::OS AC 3 k xj.s.O::OS BY 116 m xj.moves::OS AC 3 p xj.peaks::OS A5 103 q xj.sent::L) λ_ _=>HR N ao (Cn N xj aj (D2 N) n1) ar=some r) ?_ ?_
   ·refine AU ?_;have b5:=an.mono' bi;refine BE E O O b5 iI.1 O λam E c2 b6=>?_;obtain⟨c3,_,b7⟩:=b6.lv;refine AU ?_;refine DT uQ O av λau c4 bj b8=>?_;have b9:=b7.mono b8;obtain⟨rfl,⟨ca,bk,cb,a5⟩⟩:=DU.ex b9;refine EM O O O O vH.1 O bj .head O λc5 bl c6=>AU ?_;refine CP (.inr ⟨mo,Γ⟩) bl (AU ?_);obtain⟨cc,ak,E⟩:=bd E;refine A3 11 33 (.bool cc) ?_ ?_
    ·cases bm:(decide (am.Ap≠aj))
     ·have ak:=Hl bm ak;have cd:=ap.nw;have ce:=cd.le;refine AU ?_;refine BD ak O O O QD O (λcf bn h' o=>IP (St.all h') bk (Mk ce) bn) λcf ak=>AU ?_;cases ak;exact A4 O
     have ak:=Hk bm ak;cases ak;exact BK O O
    refine AU ?_;refine BW (kp [38,7,13,12,0,1,5,14] O) λc7 aw c8=>AK O E (λcg E=>?_) (λcg E=>?_)
    ·refine BL O (λaa ww hf hw=>?_);have bo:=aw.sel [1,1,1,1,1,1,1,1,1,1,1] 1 O;exact⟨v8,l9,_,_,hf.sub (kp [13,12,0,1,14,5] O),hw,bo,EX,E⟩
    refine AU ?_;refine CP (.inr ⟨mo,Γ⟩) aw (AU ?_);obtain⟨ch,ag,E⟩:=bd E;refine A3 33 75 (.bool ch) ?_ ?_
    ·cases bp:(decide (am.C≠(-1)))
     ·have ag:=Hl bp ag;cases ag;exact BK O O
     have ag:=Hk bp ag;have ci:=ai.nw;have cj:=ci.le;refine AU ?_;refine BD ag O O O QD O (λbq br h' o=>IP (St.all h') a5 (Mk cj) br) λbq ag=>AU ?_;obtain⟨ck,ah,ag⟩:=bd ag;refine A3 21 74 (.bool ck) ?_ ?_
     ·cases bs:(!bq)
      ·have ah:=Hl bs ah;refine AU ?_;have cl:=ai.nw;refine BE ah O O cl OM.1 O λc9 ah da db=>AU ?_;have cm:=ai.nw;refine BE ah O O cm OM.1 O λdc ah dd de=>AU ?_;cases ah;exact A4 O
      have ah:=Hk bs ah;cases ah;exact BK O O
     refine AU ?_;cases ag;exact A4 O
    refine BW (kp [75,7,13,12,0,1,5,14] O) λcn ax df=>AK O E (λco E=>?_) (λco E=>?_)
    ·refine BL O (λaa ww hf hw=>?_);have bt:=ax.sel [1,1,1,1,1,1,1,1,1,1,1] 1 O;exact⟨v8,l9,_,_,hf.sub (kp [13,12,0,1,14,5] O),hw,bt,EX,E⟩
    refine AU ?_;refine PM O O O (GP (cs:=[vI am.C,vI 0,vI (-3),.func (.func 190) #[] #[vP au 0]]) Sn O O O (AU ?_));obtain⟨cp,bu,dg,cq⟩:=ax.pubb (r:=DU) (x:=am) .head ⟨O,⟨ca,bk,cb,a5⟩⟩;have bv:Rd cp cn (A9.fnr prog (λS h vs (x:xq)=>∃w0:Value,vs=[w0]/\Sl S h AC w0 x) (λS h v (y:(xq×xq))=>∃w0 w1:Value,v= .tuple #[w0,w1]/\Sl S h AC w0 y.1/\Sl S h AC w1 y.2)) (.func (.func 190) #[] #[(vP au 0)]) (λx=>EN N am x):=O2 190 #[(vP au 0)] yT λS' h' s' e' L hs x y vs h1 h2=>by obtain⟨w0,rfl,a0⟩:=h1;exact Qj (PZ hs a0 (cq.mono'' s' e') h2)
    refine IX (cs:=[vI am.C,vI 0,vI (-3),(.func (.func 190) #[] #[(vP au 0)])]) Oa O O O O O O O bu λdh di bw cr=>?_;obtain⟨bx,E⟩:=MF E;have ct:=bv.mono cr;refine LQ (r:=A6) (l:=l9) (xs:=([(⟨am.C,0,(-3),(λx=>EN N am x)⟩:AD)]:List AD)) O O Oa O mh ⟨_,_,O,⟨_,O,a5,(iq (n:=0) O),(iq (n:=(-3)) O),ct⟩,O⟩ O O bx O bw (λ_=>(.tail .head)) λcu dj bz dk=>?_;have b0:=bz.drop .head;refine AU ?_;refine WF.nil (λaa ww hf hw=>?_);exact⟨cu,(l9++([(⟨am.C,0,(-3),(λx=>EN N am x)⟩:AD)]:List AD)),_,_,hf.sub (kp [13,12,0,1,14,5] O),hw,b0,EX,E⟩
   rintro aa ww⟨aq,ar,cv,cw,hf,hw,a6,cx,E⟩;refine AL ?_ hf hw;clear hf hw ww aa;rw[HR]at E;refine AU ?_;refine WF.nil (λaa ww hf hw=>?_);exact⟨aq,ar,(BO (ao+1)),_,_,hf.sub (kp [13,12,0,1,5,14] O),hw,a6,EX,(BQ _),E⟩
  refine BL O (λaa ww hf hw=>?_);exact⟨v8,l9,_,_,hf.sub (kp [5] O),hw,av,bi,E⟩
 rintro aa ww⟨v2,l3,cy,cz,hf,hw,a7,c0,E⟩;refine AL ?_ hf hw;clear hf hw ww aa;rw[D2]at E;refine AU ?_;cases E;exact GF a7 O O EX
def La(l:St S L h)(i:AB g)(c:AB a)(d:AB b)(E:Iz N g a b=some r):
 CG prog 236 #[vI g,vI a,vI b] S h (λv S' h'=>v=vI r/\AB r/\St S' (L) h'):=by
 refine CG.go 21 func236 O ntmps236 O λB=>?_;rw[Iz]at E;refine AU ?_;refine CP (.inl O) l (AU ?_);obtain⟨j,k,E⟩:=bd E;refine Kj (v:= .tuple #[vI j.1,vI j.2.1,.bool j.2.2]) (Ψ:=AB j.1/\AB j.2.1) O O O U0 O (λh' o=>(Ki (St.all h') i c d k).mono λ_ _ _ _ p=>⟨p.1,⟨p.2.1,p.2.2.1⟩⟩) λm=>?_;obtain⟨s,t⟩:=m;refine AU ?_;refine BW (kp [9,7] O) λu n w=>AU ?_;refine AK O E (λq E=>?_) (λq E=>?_)
 ·exact RT
 exact RT
def VW(H:St S L h){k:BG}(j:Rd S h CD d k)(b:AB a){c:Int}(g:AB c)(E:NN N k a c=some r):
 CG prog 238 #[d,vI a,vI c] S h (λv S' h'=>v=vI r/\AB r/\St S' (L) h'):=by
 refine CG.go 20 func238 O ntmps238 O λB=>?_;rw[NN]at E;refine AU ?_;refine CC O j CE O H λK S2 M q Q G=>AU ?_;refine AK O E (λs E=>?_) (λs E=>?_)
 ·exact RT
 refine AU ?_;refine CP (.inl O) q ?_;have t:=G.fl Kl;have u:=t.i;have w:=G.fl Km;have x:=w.i;refine AU ?_;refine DO E O O O Uy O (λy l h' o=>La (St.all h') g u x l) λy E z=>?_;have A:=z;refine DO E O O O U1 O (λC m h' o=>Lf (St.all h') b A m) λC E D=>?_;have F:=D;refine TK O O O (AU ?_);refine BW (kp [6] O) λI p J=>?_;cases E;exact GF ⟨O,(TA (iq (n:=0) O) F),p⟩ O O EX
def Ww(l:St S L h){a:Value}{g:List B3}(b:Sl S h CH a g){c:Int}(d:AB c)(E:N7 N g c=some r):
 CG prog 237 #[a,vI c] S h (λv S' h'=>v=vI r/\AB r/\St S' (L) h'):=by
 refine CG.go 17 func237 O ntmps237 O λB=>?_;rw[N7]at E;refine AU ?_;refine CP (.inl O) l (AU ?_);refine BD E O O O Rl O (λn j h' o=>If (St.all h') (b.mono' (o.all l.1)) j) λn E=>AU ?_;refine BW (kp [9,0,1] O) λz i p=>AK O E (λq E=>?_) (λq E=>?_)
 ·exact RT
 refine AU ?_;refine CP (.inl O) i (AU ?_);have s:=b.mono' p;refine DO E O O O ZQ O (λt k h' o=>NZ (St.all h') (s.mono' (o.all i.1)) d k) λt E u=>?_;have w:=u;refine AU ?_;exact BW (kp [5] O) λx m y=>RT
def VX(hs:St S L h)(D:Rd S h CD u l){d:Int}(p:AB d){c:Bool}{q:Value}{z:List B3}(F:Sl S h CH q z)(k:AB b){m:Int}(A:AB m)(E:NO N l d c z b m=some r):
 CG prog 222 #[u,vI d,.bool c,q,vI b,vI m] S h (λv S' h'=>v=vI r/\AB r/\St S' (L) h'):=by
 refine CG.go 63 func222 O ntmps222 O λB=>?_;rw[NO]at E;refine AU ?_;refine CC O D CE O hs λK S2 y x e5 k6=>AU ?_;refine AT (λa w=>IV B S2 y (63,[]) a w [] (L) λ_ _=>KM N=some r) ?_ ?_
 ·refine AU ?_;refine AT (λa w=>IV B S2 y (63,[]) a w [(6,K),(4,vI b)] (L) λ_ _=>KL N l b=some r) ?_ ?_
  ·refine AU ?_;refine AT (λa w=>IV B S2 y (63,[]) a w [(6,K),(2,.bool c),(4,vI b)] (L) λ_ _=>Ma N c (KL N l b)=some r) ?_ ?_
   ·refine AU ?_;refine AT (λa w=>IV B S2 y (63,[]) a w [(6,K),(2,.bool c),(4,vI b)] (L) λ_ _=>MZ N l c b (KM N)=some r) ?_ ?_
    ·refine AU ?_;refine AT (λa w=>IV B S2 y (63,[]) a w [(6,K),(1,vI d)] (L) λ_ _=>MY N l d=some r) ?_ ?_
     ·refine AU ?_;refine AT (λa w=>IV B S2 y (63,[]) a w [(6,K),(1,vI d),(3,q),(4,vI b),(5,vI m)] (L) λ_ _=>MW N l d z b m=some r) ?_ ?_
      ·refine AU ?_;refine AK O E (λal E=>?_) (λal E=>?_)
       ·refine BL O (λs t g j=>?_);exact⟨_,_,g.sub (kp [6,1,3,4,5] O),j,x,(CO.refl S2 y),E⟩
       refine AU ?_;refine AK O E (λam E=>?_) (λam E=>?_)
       ·refine BL O (λs t g j=>?_);exact⟨_,_,g.sub (kp [6,1] O),j,x,(CO.refl S2 y),E⟩
       refine AU ?_;refine AK O E (λan E=>?_) (λan E=>?_)
       ·refine BL O (λs t g j=>?_);exact⟨_,_,g.sub (kp [6,2,4] O),j,x,(CO.refl S2 y),E⟩
       refine AU ?_;refine AK O E (λao E=>?_) (λao E=>?_)
       ·refine BL O (λs t g j=>?_);exact⟨_,_,g.sub (kp [6,2,4] O),j,x,(CO.refl S2 y),E⟩
       refine AU ?_;refine AK O E (λap E=>?_) (λap E=>?_)
       ·refine BL O (λs t g j=>?_);exact⟨_,_,g.sub (kp [6,4] O),j,x,(CO.refl S2 y),E⟩
       refine AU ?_;refine BL O (λs t g j=>?_);exact⟨_,_,g.sub Ts,j,x,(CO.refl S2 y),E⟩
      rintro s t⟨ca,cb,g,j,C,aq,E⟩;refine AL ?_ g j;clear g j t s;rw[MW]at E;refine AU ?_;refine CP (.inr ⟨mo,Γ⟩) C ?_;have H:=k6.mono aq;obtain⟨cc,_,ar⟩:=H.lv;refine AU ?_;refine DO E O O O yH O (λau M h' o=>VW (St.all h') (ar.mono (o.all C.1)) k A M) λau E av=>?_;have aw:=av;have ax:=F.nw;refine DO E O O O yI O (λay Q h' o=>Ww (St.all h') (ax.mono' (o.all C.1)) aw Q) λay E az=>?_;have a0:=az;have a1:=H.fl Gz;have a2:=a1.i;refine AU ?_;refine DO E O O O Uy O (λa3 U h' o=>La (St.all h') a0 p a2 U) λa3 E a4=>?_;have a5:=a4;have a6:=H.fl PP;have a7:=a6.i;refine AU ?_;refine DO E O O O Ux O (λa8 V h' o=>KA (St.all h') a5 a7 V) λa8 E a9=>?_;have cd:=a9;refine AU ?_;exact BW (kp [12] O) λce b1 cf=>RT
     rintro s t⟨cg,ch,g,j,W,ba,E⟩;refine AL ?_ g j;clear g j t s;rw[MY]at E;refine AU ?_;refine CP (.inl O) W ?_;have X:=k6.mono ba;have bb:=X.fl BG.f_Num;have bc:=bb.i;have be:=X.fl Gz;have bf:=be.i;refine AU ?_;refine DO E O O O Uy O (λbg Y h' o=>La (St.all h') bc p bf Y) λbg E bh=>?_;have ci:=bh;refine AU ?_;exact BW (kp [12] O) λcj b2 ck=>RT
    rintro s t⟨cl,cm,g,j,G,Z,E⟩;refine AL ?_ g j;clear g j t s;rw[MZ]at E;refine AU ?_;refine AK O E (λbi E=>?_) (λbi E=>?_)
    ·refine AU ?_;refine CP (.inl O) G ?_;have ab:=k6.mono Z;have bj:=ab.fl BG.f_Num;have bk:=bj.i;have bl:=ab.fl BG.f_Den;have bm:=bl.i;refine AU ?_;refine DO E O O O Uy O (λbn ac h' o=>La (St.all h') k bk bm ac) λbn E bo=>?_;have cn:=bo;refine AU ?_;exact BW (kp [12] O) λco b3 cp=>RT
    refine AU ?_;refine BL O (λs t g j=>?_);exact⟨_,_,g.sub Ts,j,G,Z,E⟩
   rintro s t⟨cq,cr,g,j,ad,bp,E⟩;refine AL ?_ g j;clear g j t s;rw[Ma]at E;refine AU ?_;refine AK O E (λbq E=>?_) (λbq E=>?_)
   ·exact RT
   refine AU ?_;refine WF.nil (λs t g j=>?_);exact⟨_,_,g.sub (kp [6,4] O),j,ad,bp,E⟩
  rintro s t⟨cs,ct,g,j,ae,br,E⟩;refine AL ?_ g j;clear g j t s;rw[KL]at E;refine AU ?_;refine CP (.inr ⟨mo,Γ⟩) ae ?_;have I:=k6.mono br;have bs:=I.fl Of;have bt:=bs.i;refine AU ?_;refine DO E O O O U1 O (λbu af h' o=>Lf (St.all h') k bt af) λbu E bv=>?_;have bw:=bv;refine TK O O O ?_;have bx:=I.fl BG.f_Num;have ag:=bx.i;have ah:=I.fl BG.f_Den;have ai:=ah.i;refine AU ?_;refine DO E O O O Uy O (λaj J h' o=>La (St.all h') (TA (iq (n:=0) O) bw) ag ai J) λaj E ak=>?_;have b4:=ak;refine AU ?_;exact BW (kp [12] O) λb5 bz b6=>RT
 rintro s t⟨b7,b8,g,j,b0,b9,E⟩;refine AL ?_ g j;clear g j t s;rw[KM]at E;exact RT
def Wr(H:St S L h)(l:Rd S h CD d n){g:Value}{p:A8}(m:Rd S h BZ g p)(b:AB a){c:Int}(j:AB c)(E:N6 N n p a c=some r):
 CG prog 192 #[d,g,vI a,vI c] S h (λv S' h'=>v=vI r/\AB r/\St S' (L) h'):=by
 refine CG.go 19 func192 O ntmps192 O λB=>?_;rw[N6]at E;refine AU ?_;refine CC O l CE O H λY S2 Z t I J=>?_;have K:=m.mono I;refine CC O K CE O t λq8 S9 M k u w=>AU ?_;refine CP (.inl O) k ?_;have q:=J.mono u;obtain⟨Q,_,x⟩:=q.lv;have y:=w.fl Th;have z:=y.i;have A:=q.fl LT;obtain⟨U,_,C⟩:=A.ll;refine AU ?_;refine DO E O O O yN O (λD s h' o=>VX (St.all h') (x.mono (o.all k.1)) z (C.mono' (o.all k.1)) b j s) λD E F=>?_;have V:=F;refine AU ?_;exact BW (kp [8] O) λW G X=>RT
def K1(g:St S L h)(b:AB a)(E:IK N a=some r):
 CG prog 126 #[vI a] S h (λv S' h'=>∃c:Value,v= .func (.func 196) #[] #[c]/\Pt S' h' AC c r/\St S' (L) h'):=by
 refine CG.go 4 func126 O ntmps126 O λB=>?_;rw[IK]at E;refine AU ?_;refine CC O (⟨_,O,O,b⟩:Rd _ _ AC _ a) (λ_=>rfl) O g λj S2 k d l i=>AU ?_;refine PM O O O (AU ?_);cases E;exact GF ⟨_,O,i,d⟩ O O EX
def Tw(hs:St S L h)(F:AB g){b:xq}(k:Sl S h AC j b){r:xq×Bool}(E:Ld N g b=some r):
 CG prog 226 #[vI g,j] S h (λv S' h'=>∃bq:Value,v= .tuple #[bq,.bool r.2]/\St S' (OS AC 3 bq r.1::L) h'):=by
 refine CG.go 112 func226 O ntmps226 O λB=>?_;rw[Ld]at E;refine AU ?_;refine AK O E (λc2 E=>?_) (λc2 E=>?_)
 ·refine AU ?_;refine CM (λt u m c=>?_);have ck:=hs.nil AC 3;cases E;exact K0 m O c (Iv (KR m (v:=_) O) (Iv (KR m (v:=_) O) Kz)) O (CO.refl S h) ⟨_,O,ck⟩
 refine AU ?_;refine AT (λa w=>∃(i5:Int),IV B S h (112,[]) a w [(0,vI g),(1,j),(6,vI i5)] (L) λ_ _=>AB i5/\Gd N g b i5=some r) ?_ ?_
 ·refine A0 (λn1=>λa w=>∃(X:Int)(Z:Int),IV B S h (112,[]) a w [(24,vI (↑b.length:Int)),(23,j),(0,vI g),(1,j),(6,vI X),(25,vI Z)] (L) λ_ _=>AB X/\AB Z/\Gb N b (Gd N g b) n1 X Z=some r) N ?_ ?_ ?_
  ·intro t u m c;exact⟨0,0,_,_,m.sub (kp [24,23,0,1,6,25] O),c,hs,(CO.refl S h),(iq (n:=0) O),(iq (n:=0) O),E⟩
  ·rintro t u⟨_,_,_,_,_,_,_,_,_,_,E⟩;rw[Gb]at E;cases E
  rintro n1 t u⟨X,Z,d1,d2,m,c,ab,ai,cl,d3,E⟩;refine AL ?_ m c;clear m c u t;rw[Gb]at E;refine AU ?_;refine AK O E (λcm E=>?_) (λcm E=>?_)
  ·refine AU ?_;refine AW (AU ?_);have cn:=k.mono' ai;refine BE E O O cn CW.1 O λco E d4 d5=>AU ?_;refine AK O E (λcp E=>?_) (λcp E=>?_)
   ·refine AU ?_;refine CM (λt u m c=>?_);have br:=ab.nil AC 3;cases E;exact K0 m O c (Iv (KR m (v:=_) O) (Iv (KR m (v:=_) O) Kz)) O ai ⟨_,O,br⟩
   refine AU ?_;refine BF (AU ?_);refine WF.nil (λt u m c=>?_);exact⟨(BO (X+co)),(BO (Z+1)),_,_,m.sub (kp [24,23,0,1,6,25] O),c,ab,ai,(BQ _),(BQ _),E⟩
  refine BL O (λt u m c=>?_);exact⟨X,_,_,m.sub (kp [0,1,6] O),c,ab,ai,cl,E⟩
 rintro t u⟨i5,ax,d6,m,c,am,bs,r6,E⟩;refine AL ?_ m c;clear m c u t;rw[Gd]at E;refine AU ?_;refine AK O E (λcq E=>?_) (λcq E=>?_)
 ·refine AU ?_;refine CM (λt u m c=>?_);have bt:=am.nil AC 3;cases E;exact K0 m O c (Iv (KR m (v:=_) O) (Iv (KR m (v:=_) O) Kz)) O bs ⟨_,O,bt⟩
 have d7:=k.mono' bs;refine AU ?_;obtain⟨bu,E⟩:=MF E;refine L4 (r:=AC) (zx:=0) JY O ⟨O,by unfold AB;omega⟩ O O bu O O am λK d8 an d9=>AU ?_;refine AK O E (λcr E=>?_) (λcr E=>?_)
 ·refine AU ?_;refine CM (λt u m c=>?_);cases E;exact K0 m O c (Iv (KR m (v:=_) O) (Iv (KR m (v:=_) O) Kz)) O EX ⟨_,O,an⟩
 have ea:=k.nw;refine AU ?_;obtain⟨bv,E⟩:=MF E;refine L4 (r:=AC) (zx:=0) JY O ⟨O,by unfold AB;omega⟩ O O bv O O an λeb ec bw ed=>DT eU O bw λac ee ao ef=>?_;obtain⟨H,y,rfl,eg⟩:=ao.oslen (mt mh);refine EM O O O O GC.1 O ao .head O λeh bx ei=>?_;have ej:=k.nw;refine AU ?_;obtain⟨bz,E⟩:=MF E;refine L4 (r:=AC) (zx:=0) JY O ⟨O,by unfold AB;omega⟩ O O bz O O bx λek el b0 em=>DT eU O b0 λad en ap eo=>?_;obtain⟨I,z,rfl,ep⟩:=ap.oslen (mt mh);refine EM O O O O GC.1 O ap .head O λay b1 eq=>?_;have cs:=k.nw;refine AU ?_;refine AT (λa w=>∃(aj:Int)(az:xq)(a0:xq)(ak:xq),IV B ax ay (112,[]) a w [(11,vP ad 0),(10,vP ac 0),(9,K),(12,vI aj)] (Bx ad 29 [(.slice I (List.replicate ((↑b.length:Int):Int).toNat (0:Int)).length z)]::OS AC 3 (.slice I (List.replicate ((↑b.length:Int):Int).toNat (0:Int)).length z) az::Bx ac 29 [(.slice H (List.replicate ((↑b.length:Int):Int).toNat (0:Int)).length y)]::OS AC 3 (.slice H (List.replicate ((↑b.length:Int):Int).toNat (0:Int)).length y) a0::OS AC 3 K ak::L) λ_ _=>AB aj/\Gc N aj az a0 ak=some r) ?_ ?_
 ·refine A0 (λn3=>λa w=>∃(Y:Int)(A:Int)(Q:xq)(U:xq)(V:xq),IV B ax ay (112,[]) a w [(62,vI (↑b.length:Int)),(61,j),(11,vP ad 0),(10,vP ac 0),(9,K),(0,vI g),(6,vI i5),(12,vI Y),(63,vI A)] (Bx ad 29 [(.slice I (List.replicate ((↑b.length:Int):Int).toNat (0:Int)).length z)]::OS AC 3 (.slice I (List.replicate ((↑b.length:Int):Int).toNat (0:Int)).length z) Q::Bx ac 29 [(.slice H (List.replicate ((↑b.length:Int):Int).toNat (0:Int)).length y)]::OS AC 3 (.slice H (List.replicate ((↑b.length:Int):Int).toNat (0:Int)).length y) U::OS AC 3 K V::L) λ_ _=>AB Y/\AB A/\Ga N g b i5 (Gc N) n3 Y A Q U V=some r) N ?_ ?_ ?_
  ·intro t u m c;exact⟨g,0,(List.replicate ((↑b.length:Int):Int).toNat (0:Int)),(List.replicate ((↑b.length:Int):Int).toNat (0:Int)),(List.replicate ((↑b.length:Int):Int).toNat (0:Int)),_,_,m.sub (kp [62,61,11,10,9,0,6,12,63] O),c,b1,(CO.refl ax ay),F,(iq (n:=0) O),E⟩
  ·rintro t u⟨_,_,_,_,_,_,_,_,_,_,_,_,_,E⟩;rw[Ga]at E;cases E
  rintro n3 t u⟨Y,A,Q,U,V,cv,cw,m,c,ae,aq,ct,cu,E⟩;refine AL ?_ m c;clear m c u t;rw[Ga]at E;refine AU ?_;refine AK O E (λb2 E=>?_) (λb2 E=>?_)
  ·refine AU ?_;refine AW (AU ?_);have b3:=cs.mono' aq;refine BE E O O b3 CW.1 O λcx E cy b4=>?_;have b5:=b4.i;refine AU ?_;refine CP (.inl O) ae (AU ?_);obtain⟨s,a1,E⟩:=bd E;refine Kj (v:= .tuple #[vI s.1,vI s.2.1,.bool s.2.2]) (Ψ:=AB s.1/\AB s.2.1) O O O U0 O (λh' o=>(Ki (St.all h') F b5 r6 a1).mono λ_ _ _ _ p=>⟨p.1,⟨p.2.1,p.2.2.1⟩⟩) λb6=>?_;obtain⟨b7,b8⟩:=b6;refine AU ?_;refine BW (kp [16,15,13,62,61,11,10,9,0,6,12,63] O) λcz d c0=>AU ?_;refine WI (λw=>w.heap[ac]? =some (.cells ([(.slice H (List.replicate ((↑b.length:Int):Int).toNat (0:Int)).length y)]:List Value).toArray 29 (0,0))/\w.heap[ad]? =some (.cells ([(.slice I (List.replicate ((↑b.length:Int):Int).toNat (0:Int)).length z)]:List Value).toArray 29 (0,0))) mo (RJ 0 O Γ (λw c=>⟨d.bxW (mt (mt mh)) c,d.bxW mh c⟩) O O (RJ 1 O Γ (λw c=>⟨d.bxW (mt (mt mh)) c,d.bxW mh c⟩) O O (QZ 2 (vs:=[(.slice H (List.replicate ((↑b.length:Int):Int).toNat (0:Int)).length y)]) O Γ (λw c=>⟨d.bxW (mt (mt mh)) c,d.bxW mh c⟩) O (λw c=>c.1) O O GC.1 O O (RJ 3 O Γ (λw c=>⟨d.bxW (mt (mt mh)) c,d.bxW mh c⟩) O O (QZ 4 (vs:=[(.slice I (List.replicate ((↑b.length:Int):Int).toNat (0:Int)).length z)]) O Γ (λw c=>⟨d.bxW (mt (mt mh)) c,d.bxW mh c⟩) O (λw c=>c.2) O O GC.1 O O (RJ 5 O Γ (λw c=>⟨d.bxW (mt (mt mh)) c,d.bxW mh c⟩) O O (RJ 6 O Γ (λw c=>⟨d.bxW (mt (mt mh)) c,d.bxW mh c⟩) O O (RJ 7 O Γ (λw c=>⟨d.bxW (mt (mt mh)) c,d.bxW mh c⟩) O O (RJ 8 O Γ (λw c=>⟨d.bxW (mt (mt mh)) c,d.bxW mh c⟩) O O ?_)))))))));obtain⟨c1,a2,E⟩:=bd E;refine VE 9 (r:=AC) (xs:=V) O Γ (λw c=>⟨d.bxW (mt (mt mh)) c,d.bxW mh c⟩) d (mt (mt (mt (mt mh)))) O O CW.1 a2 O λc3 a3=>dZ 10 O O Γ ?_;obtain⟨b9,a4,E⟩:=bd E;refine Ei (r:=AC) (l:=V) (i:=A) (x:=b9) O O (⟨_,O,O,b7⟩:Rd _ _ AC _ s.1) a3 a4 NQ.id Fl.1 (λ_=>rfl) d (.tail (.tail (.tail (.tail .head)))) λc4 C c5=>Gy (λw c=>⟨C.bxW (mt (mt mh)) c,C.bxW mh c⟩) ?_;obtain⟨c6,a5,E⟩:=bd E;refine VE 11 (r:=AC) (xs:=U) O Γ (λw c=>⟨C.bxW (mt (mt mh)) c,C.bxW mh c⟩) C (mt (mt (mt mh))) O O CW.1 a5 O λc7 a6=>dZ 12 O O Γ ?_;obtain⟨ca,a7,E⟩:=bd E;refine Ei (r:=AC) (l:=U) (i:=A) (x:=ca) O O (⟨_,O,O,b8⟩:Rd _ _ AC _ s.2.1) a6 a7 NQ.id Fl.1 (λ_=>rfl) C (.tail (.tail (.tail .head))) λc8 D c9=>Gy (λw c=>⟨D.bxW (mt (mt mh)) c,D.bxW mh c⟩) ?_;obtain⟨da,a8,E⟩:=bd E;refine VE 13 (r:=AC) (xs:=Q) O Γ (λw c=>⟨D.bxW (mt (mt mh)) c,D.bxW mh c⟩) D (mt mh) O O CW.1 a8 O λdb a9=>dZ 14 O O Γ ?_
   obtain⟨cb,ba,E⟩:=bd E;refine Ei (r:=AC) (l:=Q) (i:=A) (x:=cb) O O (⟨_,O,O,cu⟩:Rd _ _ AC _ A) a9 ba NQ.id Fl.1 (λ_=>rfl) D (.tail .head) λdc W dd=>Gy (λw c=>⟨W.bxW (mt (mt mh)) c,W.bxW mh c⟩) (Qv Γ (kp [15,62,61,11,10,9,0,6,12,63] O) (AU ?_));refine BF (AU ?_);refine WF.nil (λt u m c=>?_);exact⟨(BO (Y-s.1)),(BO (A+1)),(upd Q A A),(upd U A s.2.1),(upd V A s.1),_,_,m.sub (kp [62,61,11,10,9,0,6,12,63] O),c,W,EX,(BQ _),(BQ _),E⟩
  refine BL O (λt u m c=>?_);exact⟨Y,Q,U,V,_,_,m.sub (kp [11,10,9,12] O),c,ae,aq,ct,E⟩
 rintro t u⟨aj,az,a0,ak,de,df,m,c,bb,dg,er,E⟩;refine AL ?_ m c;clear m c u t;rw[Gc]at E;refine AU ?_;refine Cj (AN 3 (AU ?_));refine rJ O Acn O (PM O O O (AU ?_));refine DX E O O O yG O (λcc bc=>Y3 bb bc) λcc E dh di af dj p=>?_;obtain⟨rfl,be⟩:=p;refine AU ?_;obtain⟨ag,bf,dk,cd⟩:=be.pubs (.tail .head);refine AU ?_;refine AU ?_;obtain⟨ar,bg,E⟩:=bd E;refine AN 1 (rE O O cd CW.1 bg O λce cf=>AU ?_);refine AT (λa w=>∃(ah:xq),IV B ag af (112,[]) a w [(9,K)] (OS AC 3 K ah::L) λ_ _=>IF N ah=some r) ?_ ?_
 ·refine A0 (λn5=>λa w=>∃(M:Int)(J:xq),IV B ag af (112,[]) a w [(99,vI (↑ar.length:Int)),(98,ce),(9,K),(100,vI M)] (OS AC 3 K J::L) λ_ _=>AB M/\GZ N ar (IF N) n5 M J=some r) N ?_ ?_ ?_
  ·intro t u m c;have bh:=bf.sel [3] 3 O;exact⟨0,ak,_,_,m.sub (kp [99,98,9,100] O),c,bh,(CO.refl ag af),(iq (n:=0) O),E⟩
  ·rintro t u⟨_,_,_,_,_,_,_,_,_,E⟩;rw[GZ]at E;cases E
  rintro n5 t u⟨M,J,dl,dm,m,c,G,au,dn,E⟩;refine AL ?_ m c;clear m c u t;rw[GZ]at E;refine AU ?_;refine AK O E (λcg E=>?_) (λcg E=>?_)
  ·refine AU ?_;refine AW (AU ?_);have ch:=cf.mono' au;refine BE E O O ch CW.1 O λav E dp dq=>AU ?_;obtain⟨dr,bi,E⟩:=bd E;refine BU G mh O O CW.1 bi O λds bj=>?_;obtain⟨aw,bk,E⟩:=bd E;have ci:=G.epAt mh bk FB.id bj;refine FA H4 (λ_ x=>x) O ci Fl.1 O λdt=>AU ?_;obtain⟨du,bl,E⟩:=bd E;refine BU G mh O O CW.1 bl O λdv bm=>AU ?_;obtain⟨cj,bn,E⟩:=bd E;refine Ei (r:=AC) (l:=J) (i:=av) (x:=cj) O O (⟨_,O,O,(BQ _)⟩:Rd _ _ AC _ (BO (aw+1))) bm bn NQ.id Fl.1 (λ_=>rfl) G .head λdw bo dx=>AU ?_;refine BF (AU ?_);refine WF.nil (λt u m c=>?_);exact⟨(BO (M+1)),(upd J av (BO (aw+1))),_,_,m.sub (kp [99,98,9,100] O),c,bo,EX,(BQ _),E⟩
  refine BL O (λt u m c=>?_);exact⟨J,_,_,m.sub (kp [9] O),c,G,au,E⟩
 rintro t u⟨ah,dy,dz,m,c,bp,d0,E⟩;refine AL ?_ m c;clear m c u t;rw[IF]at E;refine AU ?_;refine CM (λt u m c=>?_);cases E;exact K0 m O c (Iv (KR m (v:=_) O) (Iv (KR m (v:=_) O) Kz)) O EX ⟨_,O,bp⟩
def VR(hs:St S L h){d:xq}(g:Sl S h AC c d){j:Int}(x:AB j){r:xq×xq}(E:NK N d j=some r):
 CG prog 197 #[c,vI j] S h (λv S' h'=>∃H I:Value,v= .tuple #[H,I]/\St S' (OS AC 3 H r.1::OS AC 3 I r.2::L) h'):=by
 refine CG.go (l:=[c,vI j]) 39 func197 O ntmps197 O λB=>?_;rw[NK]at E;refine AU ?_;obtain⟨am,E⟩:=MF E;refine L4 (r:=AC) (zx:=0) JY O ⟨O,by unfold AB;omega⟩ O O am O O hs λv3 h4 J K=>AU ?_;refine CP (.inl O) J ?_;have k8:=g.mono' K;refine AU ?_;obtain⟨an,i,E⟩:=bd E;refine A3 3 21 (.bool an) ?_ ?_
 ·cases M:((decide (0<j))&&(decide ((↑d.length:Int)<=64)))
  ·have i:=Hl M i;cases i;exact Aal O O
  have i:=Hk M i;refine AU ?_;have ao:=g.mono' K;obtain⟨a7,Q,i⟩:=bd i;refine Jk O O O lZ O (λh' o=>P6 (St.all h') (ao.mono' (o.all J.1)) Q) (AU ?_);cases i;exact cB O
 refine BW (kp [21,4,0,1] O) λU t F=>It (λa w=>∃(G:xq),IV B S U (39,[]) a w [(4,v3),(0,c)] (OS AC 3 v3 G::L) λ_ _=>IS N d G=some r) ?_ ?_
 ·refine AK O E (λap E=>?_) (λap E=>?_)
  ·refine AU ?_;refine Cj (AU ?_);have aq:=g.mono' (K.trans F);obtain⟨a8,V,E⟩:=bd E;refine El O O O OR O t (ES (St.all _) (aq.mono (λb W=>t.1 b W) (λ_ _=>rfl)) V) λa9 ba bb u X bc p=>?_;obtain⟨rfl,ar,a4⟩:=p;refine AU ?_;refine XE O O O (AU ?_);have Y:=K.trans (F.trans X);have au:=g.mono' Y;obtain⟨Z,ab,E⟩:=bd E;refine El O O O yK O u (Tw (St.all _) (Ox x ar) (au.mono (λb W=>u.1 b W) (λ_ _=>rfl)) ab) λbe bf ac a5 av aw p=>?_;obtain⟨bg,rfl,ad⟩:=p;have q:=u.join aw ad ⟨OS.flat (λ{_ _ _ _ _ _} k=>k),trivial⟩;simp only[Ag4,Ag3]at q;refine AU ?_;refine It (λa w=>∃(y:xq),IV B S ac (39,[]) a w [(4,v3),(0,c)] (OS AC 3 v3 y::L) λ_ _=>K6 N (IS N d) y=some r) ?_ ?_
   ·refine AK O E (λax E=>?_) (λax E=>?_)
    ·refine AU ?_;refine XM (r:=AC) (l:=(List.replicate ((↑d.length:Int):Int).toNat (0:Int))) (xs:=Z.1) O O CW.1 (St.src q mh) O q (.tail .head) λbh ae ay=>AU ?_;refine WF.nil (λz A m n=>?_);have af:=ae.sel [1] 1 O;exact⟨(Qp (List.replicate ((↑d.length:Int):Int).toNat (0:Int)) Z.1),_,_,m.sub (kp [4,0] O),n,af,ay,E⟩
    refine AU ?_;refine WF.nil (λz A m n=>?_);have ag:=q.sel [1] 1 O;exact⟨(List.replicate ((↑d.length:Int):Int).toNat (0:Int)),_,_,m.sub (kp [4,0] O),n,ag,(CO.refl S ac),E⟩
   rintro z A⟨y,bi,bj,m,n,ah,az,E⟩;refine AL ?_ m n;clear m n A z;rw[K6]at E;refine WF.nil (λz A m n=>?_);have ai:=X.trans (av.trans az);exact⟨y,_,_,m.sub (kp [4,0] O),n,ah,ai,E⟩
  refine AU ?_;refine WF.nil (λz A m n=>?_);exact⟨(List.replicate ((↑d.length:Int):Int).toNat (0:Int)),_,_,m.sub (kp [4,0] O),n,t,(CO.refl S U),E⟩
 rintro z A⟨G,bk,bl,m,n,s,a0,E⟩;refine AL ?_ m n;clear m n A z;rw[IS]at E;refine AU ?_;refine Cj (AU ?_);have C:=K.trans (F.trans a0);have a1:=g.mono' C;obtain⟨bm,aj,E⟩:=bd E;refine El O O O lY O s (Ot (St.all _) (a1.mono (λb W=>s.1 b W) (λ_ _=>rfl)) (s.oslAll mh) aj) λbn bo bp a6 a2 a3 p=>?_;have ak:=p;have D:=s.join a3 ak ⟨OS.flat (λ{_ _ _ _ _ _} k=>k),trivial⟩;simp only[Ag4,Ag3]at D;refine AU ?_;refine CM (λz A m n=>?_);have al:=D.sel [1,0] 0 O;cases E;exact K0 m O n (Iv (KR m (v:=_) O) (Iv (KR m (v:=_) O) Kz)) O (C.trans a2) ⟨_,_,O,al⟩
def KD(o:St S L h){a:Value}{b:xq}(c:Sl S h AC a b)(j:Pt S h AC d c1_){r:xq×xq}(E:AQ N c1_ b=some r):
 CG prog 196 #[a,d] S h (λv S' h'=>∃l m:Value,v= .tuple #[l,m]/\St S' (OS AC 3 l r.1::OS AC 3 m r.2::L) h'):=by
 refine CG.go 10 func196 O ntmps196 O λB=>?_;rw[AQ]at E;refine AU ?_;refine Cj ?_;have u:=j.i;refine AU ?_;refine Dc E O O O yP O o (λw q=>VR (St.all _) (c.mono o.ea.1 o.ea.2) u q) λw E A C D x y s p=>?_;obtain⟨F,G,rfl,n⟩:=p;have g:=o.join s n ⟨OS.flat (λ{_ _ _ _ _ _} k=>k),⟨OS.flat (λ{_ _ _ _ _ _} k=>k),trivial⟩⟩;simp only[Ag4,Ag3]at g;refine AU ?_;refine CM (λH I t z=>?_);cases E;exact K0 t O z (Iv (KR t (v:=_) O) (Iv (KR t (v:=_) O) Kz)) O y ⟨_,_,O,g⟩
def RI(l:St S L h)(i:AB g)(c:AB a)(d:AB b)(E:MD N g a b=some r):
 CG prog 223 #[vI g,vI a,vI b] S h (λv S' h'=>v=vI r/\AB r/\St S' (L) h'):=by
 refine CG.go 21 func223 O ntmps223 O λB=>?_;rw[MD]at E;refine AU ?_;refine CP (.inl O) l (AU ?_);obtain⟨j,k,E⟩:=bd E;refine Kj (v:= .tuple #[vI j.1,vI j.2.1,.bool j.2.2]) (Ψ:=AB j.1/\AB j.2.1) O O O U0 O (λh' o=>(Ki (St.all h') i c d k).mono λ_ _ _ _ p=>⟨p.1,⟨p.2.1,p.2.2.1⟩⟩) λm=>?_;obtain⟨s,t⟩:=m;refine AU ?_;refine BW (kp [9,7] O) λu n w=>AU ?_;refine AK O E (λq E=>?_) (λq E=>?_)
 ·exact RT
 exact RT
def R8(I:St S L h){k:BG}(j:Rd S h CD d k)(b:AB a){c:Int}(g:AB c)(E:Mv N k a c=some r):
 CG prog 193 #[d,vI a,vI c] S h (λv S' h'=>v=vI r/\AB r/\St S' (L) h'):=by
 refine CG.go 23 func193 O ntmps193 O λB=>?_;rw[Mv]at E;refine AU ?_;refine CC O j CE O I λU S2 V p W n=>AU ?_;refine AK O E (λq E=>?_) (λq E=>?_)
 ·exact RT
 refine AU ?_;refine CP (.inr ⟨mo,Γ⟩) p ?_;have s:=n.fl BG.f_Num;have t:=s.i;have u:=n.fl BG.f_Den;have w:=u.i;refine AU ?_;refine DO E O O O lX O (λx l h' o=>RI (St.all h') b t w l) λx E y=>?_;have J:=y;have z:=n.fl Kl;have A:=z.i;have C:=n.fl Km;have D:=C.i;refine AU ?_;refine DO E O O O lX O (λF m h' o=>RI (St.all h') g A D m) λF E G=>?_;have K:=G;refine AU ?_;exact BW (kp [6] O) λM H Q=>RT
def Q3{g:Nat}{z:Value}(hs:St S (Bx g 112 [.string xj.b.G,ao,vI xj.b.L,ap,af,aq,ar,au,av,aw,vI xj.b.M,ai,aj,ak,am,an,vI xj.s.B,t,u,z,j,X,Z,ab,d,ac]::OS (A9.sl AC) 29 t xj.s.D::OS AC 3 u xj.s.P::OS A5 103 z xj.s.F::OS BZ 107 j xj.s.Q::OS AC 3 X xj.s.K::OS AC 3 Z xj.s.O::OS BY 116 ab xj.moves::OS AC 3 d xj.peaks::OS A5 103 ac xj.sent::L) h)(eo:xj.b.G.size<=maxLen)(ep:Sl S h A9.str ao xj.b.I)(eq:AB xj.b.L)(er:Sl S h B4 ap xj.b.A)(bb:Sl S h CD af xj.b.E)(es:Sl S h Hj aq xj.b.Af)(eu:Sl S h E7 ar xj.b.Ah)(ev:Sl S h HC au xj.b.Ai)(ew:Sl S h Db av xj.b.Ak)(ey:Sl S h AC aw xj.b.Aj)(cg:AB xj.b.M)(ch:Sl S h AC ai xj.in_.U)(ci:Sl S h Ct aj xj.in_.Ab)(cj:Sl S h Fj ak xj.in_.Ac)(ck:Sl S h DU am xj.in_.V)(cl:Sl S h Di an xj.in_.Ad)(cm:AB xj.s.B)(jh:AB ah){r:List AD}(E:Ju N xj ah=some r):
 CG prog 123 #[vP g 0,vI ah] S h (λv S' h'=>St S' (OS A6 194 v r::Bx g 112 [.string xj.b.G,ao,vI xj.b.L,ap,af,aq,ar,au,av,aw,vI xj.b.M,ai,aj,ak,am,an,vI xj.s.B,t,u,z,j,X,Z,ab,d,ac]::OS (A9.sl AC) 29 t xj.s.D::OS AC 3 u xj.s.P::OS A5 103 z xj.s.F::OS BZ 107 j xj.s.Q::OS AC 3 X xj.s.K::OS AC 3 Z xj.s.O::OS BY 116 ab xj.moves::OS AC 3 d xj.peaks::OS A5 103 ac xj.sent::L) h'):=by
 refine CG.go 141 func123 O ntmps123 O λB=>?_;rw[Ju]at E;refine AU ?_;refine AT (λa w=>∃(v2:Value)(l3:List AD),IV B S h (141,[]) a w [(5,v2)] (OS A6 194 v2 l3::Bx g 112 [.string xj.b.G,ao,vI xj.b.L,ap,af,aq,ar,au,av,aw,vI xj.b.M,ai,aj,ak,am,an,vI xj.s.B,t,u,z,j,X,Z,ab,d,ac]::OS (A9.sl AC) 29 t xj.s.D::OS AC 3 u xj.s.P::OS A5 103 z xj.s.F::OS BZ 107 j xj.s.Q::OS AC 3 X xj.s.K::OS AC 3 Z xj.s.O::OS BY 116 ab xj.moves::OS AC 3 d xj.peaks::OS A5 103 ac xj.sent::L) λ_ _=>D4 N l3=some r) ?_ ?_
 ·refine A0 (λn1=>λa w=>∃(v8:Value)(l9:List AD)(k:Int),IV B S h (141,[]) a w [(14,vI (↑xj.b.E.length:Int)),(13,af),(0,vP g 0),(1,vI ah),(5,v8),(15,vI k)] (OS A6 194 v8 l9::Bx g 112 [.string xj.b.G,ao,vI xj.b.L,ap,af,aq,ar,au,av,aw,vI xj.b.M,ai,aj,ak,am,an,vI xj.s.B,t,u,z,j,X,Z,ab,d,ac]::OS (A9.sl AC) 29 t xj.s.D::OS AC 3 u xj.s.P::OS A5 103 z xj.s.F::OS BZ 107 j xj.s.Q::OS AC 3 X xj.s.K::OS AC 3 Z xj.s.O::OS BY 116 ab xj.moves::OS AC 3 d xj.peaks::OS A5 103 ac xj.sent::L) λ_ _=>AB k/\CQ N xj ah (D4 N) n1 l9 k=some r) N ?_ ?_ ?_
  ·intro aa ww hf hw;have ez:=hs.nil A6 194;exact⟨(vN),([]:List AD),0,_,_,hf.sub (kp [14,13,0,1,5,15] O),hw,ez,(CO.refl S h),(iq (n:=0) O),E⟩
  ·rintro aa ww⟨_,_,_,_,_,_,_,_,_,_,E⟩;rw[CQ]at E;cases E
  rintro n1 aa ww⟨v8,l9,k,a4,ji,hf,hw,b1,e0,o1,E⟩;refine AL ?_ hf hw;clear hf hw ww aa;rw[CQ]at E;refine AU ?_;refine AK O E (λjj E=>?_) (λjj E=>?_)
  ·refine AU ?_;refine AT (λa w=>∃(bs:Value)(bt:List AD),IV B a4 ji (141,[]) a w [(14,vI (↑xj.b.E.length:Int)),(13,af),(0,vP g 0),(1,vI ah),(15,vI k),(5,bs)] (OS A6 194 bs bt::Bx g 112 [.string xj.b.G,ao,vI xj.b.L,ap,af,aq,ar,au,av,aw,vI xj.b.M,ai,aj,ak,am,an,vI xj.s.B,t,u,z,j,X,Z,ab,d,ac]::OS (A9.sl AC) 29 t xj.s.D::OS AC 3 u xj.s.P::OS A5 103 z xj.s.F::OS BZ 107 j xj.s.Q::OS AC 3 X xj.s.K::OS AC 3 Z xj.s.O::OS BY 116 ab xj.moves::OS AC 3 d xj.peaks::OS A5 103 ac xj.sent::L) λ_ _=>EU N k (CQ N xj ah (D4 N) n1) bt=some r) ?_ ?_
   ·refine AU ?_;have jk:=bb.mono' e0;refine BE E O O jk PU.1 O λc E o2 jl=>?_;obtain⟨o3,_,jm⟩:=jl.lv;refine AU ?_;refine DT Po O b1 λa1 o4 e1 jn=>AU ?_;have bu:=jm.mono jn;obtain⟨bv,bw,bx,rfl,cn,co,cp,cq,o5,o6,o7,cr,ct,cu,cv,cw,cx,cy,cz,c0,c1,c2⟩:=CD.ex bu;refine H5 O O O ON Pv.1 O e1 .head O λa5 ag o8=>AU ?_;refine AW (AU ?_);refine AK O E (λjo E=>?_) (λjo E=>?_)
    ·refine AU ?_;refine It (λa w=>∃(a7:Int),IV B a4 a5 (141,[]) a w [(6,vI k),(7,vP a1 0),(14,vI (↑xj.b.E.length:Int)),(13,af),(0,vP g 0),(1,vI ah),(5,v8),(15,vI k),(8,vI a7)] (Bx a1 139 [.string c.G,vI c.H,vI c.J,vI c.C,bv,bw,bx,vI c.W,vI c.Ag,vI c.Bb,vI c.Bc,vI c.Y,vI c.T,vI c.Az,vI c.Ba,vI c.Aq,vI c.Al,vI c.S]::OS A6 194 v8 l9::Bx g 112 [.string xj.b.G,ao,vI xj.b.L,ap,af,aq,ar,au,av,aw,vI xj.b.M,ai,aj,ak,am,an,vI xj.s.B,t,u,z,j,X,Z,ab,d,ac]::OS (A9.sl AC) 29 t xj.s.D::OS AC 3 u xj.s.P::OS A5 103 z xj.s.F::OS BZ 107 j xj.s.Q::OS AC 3 X xj.s.K::OS AC 3 Z xj.s.O::OS BY 116 ab xj.moves::OS AC 3 d xj.peaks::OS A5 103 ac xj.sent::L) λ_ _=>AB a7/\IR N xj ah l9 k c (EU N k (CQ N xj ah (D4 N) n1)) a7=some r) ?_ ?_
     ·refine AK O E (λjp E=>?_) (λjp E=>?_)
      ·refine Ip (.inr ⟨mo,Γ⟩) (AU ?_);obtain⟨o9,e2,E⟩:=bd E;refine BU ag (mt (mt (mt (mt (mt (mt (mt (mt (mt (mt mh)))))))))) O O CW.1 e2 O λpa e3=>?_;obtain⟨jq,e4,E⟩:=bd E;have jr:=ag.epAt (mt (mt (mt (mt (mt (mt (mt (mt (mt (mt mh)))))))))) e4 FB.id e3;refine FA H4 (λ_ x=>x) O jr Fl.1 O λjs=>AU ?_;refine WF.nil (λaa ww hf hw=>?_);exact⟨jq,_,_,hf.sub (kp [6,7,14,13,0,1,5,15,8] O),hw,ag,(CO.refl a4 a5),js,E⟩
      refine AU ?_;refine WF.nil (λaa ww hf hw=>?_);exact⟨0,_,_,hf.sub (kp [6,7,14,13,0,1,5,15,8] O),hw,ag,(CO.refl a4 a5),(iq (n:=0) O),E⟩
     rintro aa ww⟨a7,bz,b0,hf,hw,az,pb,pc,E⟩;refine AL ?_ hf hw;clear hf hw ww aa;rw[IR]at E;obtain⟨pd,e5,E⟩:=bd E;obtain⟨e6,e7,E⟩:=bd E;obtain⟨pe,e8,E⟩:=bd E;obtain⟨e9,fa,E⟩:=bd E;obtain⟨fb,fc,E⟩:=bd E;obtain⟨a2,fd,E⟩:=bd E;refine OA (m:=[(6,vI k),(7,vP a1 0),(14,vI (↑xj.b.E.length:Int)),(13,af),(0,vP g 0),(1,vI ah),(5,v8),(15,vI k),(8,vI a7)]) 27 (λi v hh=>match i with|0=>v=v8|1=>v=vP a1 3|2=>v=vI c.C/\AB c.C|3=>v=vP a1 17|4=>v=vI c.S/\AB c.S|5=>v=vI k/\AB k|6=>v= .agg #[.string c.G,vI c.H,vI c.J,vI c.C,bv,bw,bx,vI c.W,vI c.Ag,vI c.Bb,vI c.Bc,vI c.Y,vI c.T,vI c.Az,vI c.Ba,vI c.Aq,vI c.Al,vI c.S]/\c.G.size<=maxLen/\AB c.H/\AB c.J/\AB c.C/\AB c.W/\AB c.Ag/\AB c.Bb/\AB c.Bc/\AB c.Y/\AB c.T/\AB c.Az/\AB c.Ba/\AB c.Aq/\AB c.Al/\AB c.S|7=>v=vP g 0|8=>v=vP g 0|9=>v=vP g 16|10=>v=vP g 20|11=>v=j|12=>v=vI k/\AB k|13=>EP j (k.toNat*(BZ).sz+0) v|14=>Rd bz hh BZ v e6|15=>v=vP g 0|16=>v=vP g 0|17=>v=vP g 24|18=>v=d|19=>v=vI ah/\AB ah|20=>EP d (ah.toNat*(AC).sz+0) v|21=>v=vI e9/\AB e9|22=>v=vI a7/\AB a7|23=>v=vI fb/\AB fb|24=>Rd (SN bz b0 hh) hh (A9.fnr prog (λS h vs (x:xq)=>∃w0:Value,vs=[w0]/\Sl S h AC w0 x) (λS h v (y:(xq×xq))=>∃w0 w1:Value,v= .tuple #[w0,w1]/\Sl S h AC w0 y.1/\Sl S h AC w1 y.2)) v (λx=>AQ N a2 x)|25=>Rd (SN bz b0 hh) hh A6 v (⟨c.C,c.S,k,(λx=>AQ N a2 x)⟩:AD)|26=>Sl (SN bz b0 hh) hh A6 v ([(⟨c.C,c.S,k,(λx=>AQ N a2 x)⟩:AD)]:List AD)/\∃ad,v= .slice (some ad) 1 1|_=>False) [[],[],[(1,42)],[],[(3,44)],[],[],[],[(7,48)],[(8,49)],[(9,50)],[(10,51)],[],[(11,52),(12,53)],[(13,54)],[],[(15,56)],[(16,57)],[(17,58)],[],[(18,59),(19,60)],[(20,61)],[],[(6,47),(14,55),(21,62),(22,63)],[(23,64)],[(2,43),(4,45),(5,46),(24,65)],[(25,66)]] [(0,41),(26,67)] mo Γ [6,7,14,13,0,1,5,15,8] O Γ Γ Γ (kp [6,7,14,13,0,1,5,15,8] O) MO ?_ ?_
     ·refine A7.cons O F9 (A7.cons O F9 (A7.cons O F9 (A7.cons O F9 (A7.cons O F9 (A7.cons O F9 (A7.cons O ?_ ?_))))))
      ·intro mq hh o;have q:=o.st az;refine AU ?_;exact B1 ⟨O,cn,co,cp,cq,cr,ct,cu,cv,cw,cx,cy,cz,c0,c1,c2⟩
      refine A7.cons O F9 (A7.cons O F9 (A7.cons O F9 (A7.cons O F9 (A7.cons O F9 (A7.cons O F9 (A7.cons O ?_ ?_))))))
      ·intro mq hh o;intro ka fe kb ff;have q:=o.st az;cases fe;obtain⟨rfl,kc⟩:=ff;refine AU ?_;refine BU q (mt (mt (mt (mt (mt (mt mh)))))) O O RH.1 e5 O λkd c3=>AU ?_;exact B1 c3
      refine A7.cons O ?_ ?_
      ·intro mq hh o;intro ke fg;have q:=o.st az;refine AU ?_;have fh:=q.epAt (mt (mt (mt (mt (mt (mt mh)))))) e7 FB.id fg;refine Lh H4 (λ_ x=>x) O fh Ja.1 CE O λkf fi=>AU ?_;exact B1 fi
      refine A7.cons O F9 (A7.cons O F9 (A7.cons O F9 (A7.cons O F9 (A7.cons O F9 (A7.cons O ?_ ?_)))))
      ·intro mq hh o;intro kg fj kh fk;have q:=o.st az;cases fj;obtain⟨rfl,ki⟩:=fk;refine AU ?_;refine BU q (mt (mt (mt (mt (mt (mt (mt (mt (mt (mt mh)))))))))) O O CW.1 e8 O λkj c4=>AU ?_;exact B1 c4
      refine A7.cons O ?_ ?_
      ·intro mq hh o;intro kk fl;have q:=o.st az;refine AU ?_;have fm:=q.epAt (mt (mt (mt (mt (mt (mt (mt (mt (mt (mt mh)))))))))) fa FB.id fl;refine FA H4 (λ_ x=>x) O fm Fl.1 O λfn=>AU ?_;exact B1 ⟨O,fn⟩
      refine A7.cons O F9 (A7.cons O ?_ ?_)
      ·intro mq hh o;intro kl fo fp a6 km fq kn fr;have q:=SN.st az o;obtain⟨rfl,ko,kr,ks,kt,ku,kv,kw,kx,ky,kz,k0,k1,k2,k3,k4⟩:=fo;have a6:=Rd.sn b0 a6;have a6:Rd _ _ BZ fp e6:=a6;obtain⟨rfl,fs⟩:=fq;obtain⟨rfl,ft⟩:=fr;have bc:=bu.nw;refine El O O O yR O q (Wr (St.all _) (bc.mono q.ea) (a6.mono q.ea) fs ft fc) λk5 k6 k7 jt k8 b2 p=>?_;obtain⟨rfl,fu,ju⟩:=p;exact BB ⟨b2.siz,λb hb=>b2.same b hb⟩ ⟨O,fu⟩
      refine A7.cons O ?_ ?_
      ·intro mq hh o;intro k9 fv;have q:=SN.st az o;obtain⟨rfl,fw⟩:=fv;have a3:=q.fz;refine Ch O O O U3 O (K1 a3 fw fd) λla fx fy f0 p=>?_;obtain⟨b3,rfl,f1,c5⟩:=p;have c6:Rd fx fy (A9.fnr prog (λS h vs (x:xq)=>∃w0:Value,vs=[w0]/\Sl S h AC w0 x) (λS h v (y:(xq×xq))=>∃w0 w1:Value,v= .tuple #[w0,w1]/\Sl S h AC w0 y.1/\Sl S h AC w1 y.2)) (.func (.func 196) #[] #[b3]) (λx=>AQ N a2 x):=O2 196 #[b3] Uz λS' h' s' e' L hs x y vs h1 h2=>by obtain⟨w0,rfl,a0⟩:=h1;exact Qj (KD hs a0 (f1.mono'' s' e') h2)
       have bg:=Fz.done o f0 c5;exact BB bg.1 (Rd.mono c6 bg.2)
      refine A7.cons O ?_ ?_
      ·intro mq hh o;intro lb f2 lc f3 le f4 f5 a8;have q:=SN.st az o;obtain⟨rfl,f6⟩:=f2;obtain⟨rfl,f7⟩:=f3;obtain⟨rfl,f8⟩:=f4;have a8:Rd _ _ (A9.fnr prog (λS h vs (x:xq)=>∃w0:Value,vs=[w0]/\Sl S h AC w0 x) (λS h v (y:(xq×xq))=>∃w0 w1:Value,v= .tuple #[w0,w1]/\Sl S h AC w0 y.1/\Sl S h AC w1 y.2)) f5 (λx=>AQ N a2 x):=a8;refine AU ?_;obtain⟨c7,c8,rfl,jv,jw⟩:=a8.fnr;refine GP (cs:=[vI c.C,vI c.S,vI k,(.func (.func c7) #[] c8)]) Sn O O O (AU ?_);exact B1 (A6.mk (x:=(⟨c.C,c.S,k,(λx=>AQ N a2 x)⟩:AD)) f6 f7 f8 a8)
      refine A7.cons O ?_ ?_
      ·intro mq hh o;intro f9 bh;have q:=SN.st az o;have bh:Rd _ _ A6 f9 (⟨c.C,c.S,k,(λx=>AQ N a2 x)⟩:AD):=bh;have a3:=q.fz;obtain⟨ga,rfl,gb,gc,ge,gf⟩:=A6.ex bh;refine IX (cs:=[vI ((⟨c.C,c.S,k,(λx=>AQ N a2 x)⟩:AD).to_),vI ((⟨c.C,c.S,k,(λx=>AQ N a2 x)⟩:AD).delay),vI ((⟨c.C,c.S,k,(λx=>AQ N a2 x)⟩:AD).way),ga]) Oa O O O O O O O a3 λlf lg c9 gg=>?_;have gh:=gf.mono gg;have da:=c9.bxos (r:=A6) (l:=([(⟨c.C,c.S,k,(λx=>AQ N a2 x)⟩:AD)]:List AD)) .head ⟨_,_,O,⟨_,O,gb,gc,ge,gh⟩,O⟩ (by simp[maxLen]);obtain⟨lh,db,li,gi⟩:=da.pubs .head;have bi:=Fz.done o EX db;exact BB bi.1 ⟨Sl.mono' gi bi.2,_,O⟩
      exact trivial
     intro lj gj ll gl lm bj;have dc:=SN.st az gj;cases gl;obtain⟨bj,jx,rfl⟩:=bj;obtain⟨dd,E⟩:=MF E;refine Eg (r:=A6) (l:=l9) (xs:=([(⟨c.C,c.S,k,(λx=>AQ N a2 x)⟩:AD)]:List AD)) O O Oa O (Sl.src bj) O dd O dc (λ_=>(.tail .head)) λgm ln de lo=>AU ?_;refine BF (WF.nil (λaa ww hf hw=>?_));have df:=de.sel [1,1,1,1,1,1,1,1,1,1,1] 1 O;exact⟨gm,(l9++([(⟨c.C,c.S,k,(λx=>AQ N a2 x)⟩:AD)]:List AD)),_,_,hf.sub (kp [14,13,0,1,15,5] O),hw,df,EX,E⟩
    refine AU ?_;refine AK O E (λgn E=>?_) (λgn E=>?_)
    ·obtain ⟨lp,dg,E⟩:=bd E;obtain⟨b4,dh,E⟩:=bd E;obtain⟨lq,di,E⟩:=bd E;obtain⟨b5,dj,E⟩:=bd E;obtain⟨b6,dk,E⟩:=bd E;obtain⟨ax,dl,E⟩:=bd E;refine OA (m:=[(6,vI k),(7,vP a1 0),(14,vI (↑xj.b.E.length:Int)),(13,af),(0,vP g 0),(1,vI ah),(5,v8),(15,vI k)]) 26 (λi v hh=>match i with|0=>v=v8|1=>v=vP a1 3|2=>v=vI c.C/\AB c.C|3=>v=vP a1 17|4=>v=vI c.S/\AB c.S|5=>v=vI k/\AB k|6=>v= .agg #[.string c.G,vI c.H,vI c.J,vI c.C,bv,bw,bx,vI c.W,vI c.Ag,vI c.Bb,vI c.Bc,vI c.Y,vI c.T,vI c.Az,vI c.Ba,vI c.Aq,vI c.Al,vI c.S]/\c.G.size<=maxLen/\AB c.H/\AB c.J/\AB c.C/\AB c.W/\AB c.Ag/\AB c.Bb/\AB c.Bc/\AB c.Y/\AB c.T/\AB c.Az/\AB c.Ba/\AB c.Aq/\AB c.Al/\AB c.S|7=>v=vP g 0|8=>v=vP g 0|9=>v=vP g 24|10=>v=d|11=>v=vI ah/\AB ah|12=>EP d (ah.toNat*(AC).sz+0) v|13=>v=vI b4/\AB b4|14=>v=vP g 0|15=>v=vP g 0|16=>v=vP g 24|17=>v=d|18=>v=vP a1 3|19=>v=vI c.C/\AB c.C|20=>EP d (c.C.toNat*(AC).sz+0) v|21=>v=vI b5/\AB b5|22=>v=vI b6/\AB b6|23=>Rd (SN a4 a5 hh) hh (A9.fnr prog (λS h vs (x:xq)=>∃w0:Value,vs=[w0]/\Sl S h AC w0 x) (λS h v (y:(xq×xq))=>∃w0 w1:Value,v= .tuple #[w0,w1]/\Sl S h AC w0 y.1/\Sl S h AC w1 y.2)) v (λx=>AQ N ax x)|24=>Rd (SN a4 a5 hh) hh A6 v (⟨c.C,c.S,k,(λx=>AQ N ax x)⟩:AD)|25=>Sl (SN a4 a5 hh) hh A6 v ([(⟨c.C,c.S,k,(λx=>AQ N ax x)⟩:AD)]:List AD)/\∃ad,v= .slice (some ad) 1 1|_=>False) [[],[],[(1,75)],[],[(3,77)],[],[],[],[(7,81)],[(8,82)],[(9,83)],[],[(10,84),(11,85)],[(12,86)],[],[(14,88)],[(15,89)],[(16,90)],[],[(18,92)],[(17,91),(19,93)],[(20,94)],[(6,80),(13,87),(21,95)],[(22,96)],[(2,76),(4,78),(5,79),(23,97)],[(24,98)]] [(0,74),(25,99)] mo Γ [6,7,14,13,0,1,5,15] O Γ Γ Γ (kp [6,7,14,13,0,1,5,15] O) MO ?_ ?_
     ·refine A7.cons O F9 (A7.cons O F9 (A7.cons O F9 (A7.cons O F9 (A7.cons O F9 (A7.cons O F9 (A7.cons O ?_ ?_))))))
      ·intro mq hh o;have q:=o.st ag;refine AU ?_;exact B1 ⟨O,cn,co,cp,cq,cr,ct,cu,cv,cw,cx,cy,cz,c0,c1,c2⟩
      refine A7.cons O F9 (A7.cons O F9 (A7.cons O F9 (A7.cons O F9 (A7.cons O F9 (A7.cons O ?_ ?_)))))
      ·intro mq hh o;intro lr gp ls gq;have q:=o.st ag;cases gp;obtain⟨rfl,lt⟩:=gq;refine AU ?_;refine BU q (mt (mt (mt (mt (mt (mt (mt (mt (mt (mt mh)))))))))) O O CW.1 dg O λlu dm=>AU ?_;exact B1 dm
      refine A7.cons O ?_ ?_
      ·intro mq hh o;intro lw gr;have q:=o.st ag;refine AU ?_;have gs:=q.epAt (mt (mt (mt (mt (mt (mt (mt (mt (mt (mt mh)))))))))) dh FB.id gr;refine FA H4 (λ_ x=>x) O gs Fl.1 O λgu=>AU ?_;exact B1 ⟨O,gu⟩
      refine A7.cons O F9 (A7.cons O F9 (A7.cons O F9 (A7.cons O F9 (A7.cons O F9 (A7.cons O F9 (A7.cons O ?_ ?_))))))
      ·intro mq hh o;intro lx gv ly gw;have q:=o.st ag;cases gv;obtain⟨rfl,lz⟩:=gw;refine AU ?_;refine BU q (mt (mt (mt (mt (mt (mt (mt (mt (mt (mt mh)))))))))) O O CW.1 di O λl0 dn=>AU ?_;exact B1 dn
      refine A7.cons O ?_ ?_
      ·intro mq hh o;intro l1 gx;have q:=o.st ag;refine AU ?_;have gy:=q.epAt (mt (mt (mt (mt (mt (mt (mt (mt (mt (mt mh)))))))))) dj FB.id gx;refine FA H4 (λ_ x=>x) O gy Fl.1 O λgz=>AU ?_;exact B1 ⟨O,gz⟩
      refine A7.cons O ?_ ?_
      ·intro mq hh o;intro l2 g0 l4 g1 l5 g2;have q:=SN.st ag o;obtain⟨rfl,l6,l7,l8,ma,mb,mc,md,me,mf,mg,mi,mj,ml,mm,mn⟩:=g0;obtain⟨rfl,g3⟩:=g1;obtain⟨rfl,g4⟩:=g2;have be:=bu.nw;refine El O O O mE O q (R8 (St.all _) (be.mono q.ea) g3 g4 dk) λmp mr ms jy mu b7 p=>?_;obtain⟨rfl,g5,jz⟩:=p;exact BB ⟨b7.siz,λb hb=>b7.same b hb⟩ ⟨O,g5⟩
      refine A7.cons O ?_ ?_
      ·intro mq hh o;intro mv g6;have q:=SN.st ag o;obtain⟨rfl,g7⟩:=g6;have a3:=q.fz;refine Ch O O O U3 O (K1 a3 g7 dl) λmw g8 g9 ha p=>?_;obtain⟨b8,rfl,hc,dp⟩:=p;have dq:Rd g8 g9 (A9.fnr prog (λS h vs (x:xq)=>∃w0:Value,vs=[w0]/\Sl S h AC w0 x) (λS h v (y:(xq×xq))=>∃w0 w1:Value,v= .tuple #[w0,w1]/\Sl S h AC w0 y.1/\Sl S h AC w1 y.2)) (.func (.func 196) #[] #[b8]) (λx=>AQ N ax x):=O2 196 #[b8] Uz λS' h' s' e' L hs x y vs h1 h2=>by obtain⟨w0,rfl,a0⟩:=h1;exact Qj (KD hs a0 (hc.mono'' s' e') h2)
       have bk:=Fz.done o ha dp;exact BB bk.1 (Rd.mono dq bk.2)
      refine A7.cons O ?_ ?_
      ·intro mq hh o;intro mx hd my he mz hg hi a9;have q:=SN.st ag o;obtain⟨rfl,hj⟩:=hd;obtain⟨rfl,hk⟩:=he;obtain⟨rfl,hl⟩:=hg;have a9:Rd _ _ (A9.fnr prog (λS h vs (x:xq)=>∃w0:Value,vs=[w0]/\Sl S h AC w0 x) (λS h v (y:(xq×xq))=>∃w0 w1:Value,v= .tuple #[w0,w1]/\Sl S h AC w0 y.1/\Sl S h AC w1 y.2)) hi (λx=>AQ N ax x):=a9;refine AU ?_;obtain⟨dr,ds,rfl,j0,j1⟩:=a9.fnr;refine GP (cs:=[vI c.C,vI c.S,vI k,(.func (.func dr) #[] ds)]) Sn O O O (AU ?_);exact B1 (A6.mk (x:=(⟨c.C,c.S,k,(λx=>AQ N ax x)⟩:AD)) hj hk hl a9)
      refine A7.cons O ?_ ?_
      ·intro mq hh o;intro hm bl;have q:=SN.st ag o;have bl:Rd _ _ A6 hm (⟨c.C,c.S,k,(λx=>AQ N ax x)⟩:AD):=bl;have a3:=q.fz;obtain⟨hn,rfl,ho,hp,hq,hr⟩:=A6.ex bl;refine IX (cs:=[vI ((⟨c.C,c.S,k,(λx=>AQ N ax x)⟩:AD).to_),vI ((⟨c.C,c.S,k,(λx=>AQ N ax x)⟩:AD).delay),vI ((⟨c.C,c.S,k,(λx=>AQ N ax x)⟩:AD).way),hn]) Oa O O O O O O O a3 λm0 m1 dt ht=>?_;have hu:=hr.mono ht;have du:=dt.bxos (r:=A6) (l:=([(⟨c.C,c.S,k,(λx=>AQ N ax x)⟩:AD)]:List AD)) .head ⟨_,_,O,⟨_,O,ho,hp,hq,hu⟩,O⟩ (by simp[maxLen]);obtain⟨m2,dv,m3,hv⟩:=du.pubs .head;have bm:=Fz.done o EX dv;exact BB bm.1 ⟨Sl.mono' hv bm.2,_,O⟩
      exact trivial
     intro m4 hx m5 hy m6 bn;have dw:=SN.st ag hx;cases hy;obtain⟨bn,j2,rfl⟩:=bn;obtain⟨dx,E⟩:=MF E;refine Eg (r:=A6) (l:=l9) (xs:=([(⟨c.C,c.S,k,(λx=>AQ N ax x)⟩:AD)]:List AD)) O O Oa O (Sl.src bn) O dx O dw (λ_=>(.tail .head)) λhz m7 dy m8=>AU ?_;refine BF (WF.nil (λaa ww hf hw=>?_));have dz:=dy.sel [1,1,1,1,1,1,1,1,1,1,1] 1 O;exact⟨hz,(l9++([(⟨c.C,c.S,k,(λx=>AQ N ax x)⟩:AD)]:List AD)),_,_,hf.sub (kp [14,13,0,1,15,5] O),hw,dz,EX,E⟩
    refine AU ?_;refine AK O E (λh0 E=>?_) (λh0 E=>?_)
    ·obtain ⟨m9,d0,E⟩:=bd E;obtain⟨b9,d1,E⟩:=bd E;obtain⟨na,d2,E⟩:=bd E;obtain⟨ca,d3,E⟩:=bd E;obtain⟨cb,d4,E⟩:=bd E;obtain⟨cc,d5,E⟩:=bd E;obtain⟨ay,d6,E⟩:=bd E;refine OA (m:=[(6,vI k),(7,vP a1 0),(14,vI (↑xj.b.E.length:Int)),(13,af),(0,vP g 0),(1,vI ah),(5,v8),(15,vI k)]) 27 (λi v hh=>match i with|0=>v=v8|1=>v=vP a1 2|2=>v=vI c.J/\AB c.J|3=>v=vP a1 17|4=>v=vI c.S/\AB c.S|5=>v=vI k/\AB k|6=>v= .agg #[.string c.G,vI c.H,vI c.J,vI c.C,bv,bw,bx,vI c.W,vI c.Ag,vI c.Bb,vI c.Bc,vI c.Y,vI c.T,vI c.Az,vI c.Ba,vI c.Aq,vI c.Al,vI c.S]/\c.G.size<=maxLen/\AB c.H/\AB c.J/\AB c.C/\AB c.W/\AB c.Ag/\AB c.Bb/\AB c.Bc/\AB c.Y/\AB c.T/\AB c.Az/\AB c.Ba/\AB c.Aq/\AB c.Al/\AB c.S|7=>v=vP g 0|8=>v=vP g 0|9=>v=vP g 24|10=>v=d|11=>v=vP a1 2|12=>v=vI c.J/\AB c.J|13=>EP d (c.J.toNat*(AC).sz+0) v|14=>v=vI b9/\AB b9|15=>v=vP g 0|16=>v=vP g 0|17=>v=vP g 24|18=>v=d|19=>v=vI ah/\AB ah|20=>EP d (ah.toNat*(AC).sz+0) v|21=>v=vI ca/\AB ca|22=>v=vI cb/\AB cb|23=>v=vI cc/\AB cc|24=>Rd (SN a4 a5 hh) hh (A9.fnr prog (λS h vs (x:xq)=>∃w0:Value,vs=[w0]/\Sl S h AC w0 x) (λS h v (y:(xq×xq))=>∃w0 w1:Value,v= .tuple #[w0,w1]/\Sl S h AC w0 y.1/\Sl S h AC w1 y.2)) v (λx=>AQ N ay x)|25=>Rd (SN a4 a5 hh) hh A6 v (⟨c.J,c.S,k,(λx=>AQ N ay x)⟩:AD)|26=>Sl (SN a4 a5 hh) hh A6 v ([(⟨c.J,c.S,k,(λx=>AQ N ay x)⟩:AD)]:List AD)/\∃ad,v= .slice (some ad) 1 1|_=>False) [[],[],[(1,112)],[],[(3,114)],[],[],[],[(7,118)],[(8,119)],[(9,120)],[],[(11,122)],[(10,121),(12,123)],[(13,124)],[],[(15,126)],[(16,127)],[(17,128)],[],[(18,129),(19,130)],[(20,131)],[(6,117),(14,125),(21,132)],[(22,133)],[(23,134)],[(2,113),(4,115),(5,116),(24,135)],[(25,136)]] [(0,111),(26,137)] mo Γ [6,7,14,13,0,1,5,15] O Γ Γ Γ (kp [6,7,14,13,0,1,5,15] O) MO ?_ ?_
     ·refine A7.cons O F9 (A7.cons O F9 (A7.cons O F9 (A7.cons O F9 (A7.cons O F9 (A7.cons O F9 (A7.cons O ?_ ?_))))))
      ·intro mq hh o;have q:=o.st ag;refine AU ?_;exact B1 ⟨O,cn,co,cp,cq,cr,ct,cu,cv,cw,cx,cy,cz,c0,c1,c2⟩
      refine A7.cons O F9 (A7.cons O F9 (A7.cons O F9 (A7.cons O F9 (A7.cons O F9 (A7.cons O F9 (A7.cons O ?_ ?_))))))
      ·intro mq hh o;intro nb h3 nc h4;have q:=o.st ag;cases h3;obtain⟨rfl,nd⟩:=h4;refine AU ?_;refine BU q (mt (mt (mt (mt (mt (mt (mt (mt (mt (mt mh)))))))))) O O CW.1 d0 O λne d7=>AU ?_;exact B1 d7
      refine A7.cons O ?_ ?_
      ·intro mq hh o;intro nf h5;have q:=o.st ag;refine AU ?_;have h6:=q.epAt (mt (mt (mt (mt (mt (mt (mt (mt (mt (mt mh)))))))))) d1 FB.id h5;refine FA H4 (λ_ x=>x) O h6 Fl.1 O λh7=>AU ?_;exact B1 ⟨O,h7⟩
      refine A7.cons O F9 (A7.cons O F9 (A7.cons O F9 (A7.cons O F9 (A7.cons O F9 (A7.cons O ?_ ?_)))))
      ·intro mq hh o;intro ng h8 nh h9;have q:=o.st ag;cases h8;obtain⟨rfl,ni⟩:=h9;refine AU ?_;refine BU q (mt (mt (mt (mt (mt (mt (mt (mt (mt (mt mh)))))))))) O O CW.1 d2 O λnj d8=>AU ?_;exact B1 d8
      refine A7.cons O ?_ ?_
      ·intro mq hh o;intro nk ia;have q:=o.st ag;refine AU ?_;have ib:=q.epAt (mt (mt (mt (mt (mt (mt (mt (mt (mt (mt mh)))))))))) d3 FB.id ia;refine FA H4 (λ_ x=>x) O ib Fl.1 O λic=>AU ?_;exact B1 ⟨O,ic⟩
      refine A7.cons O ?_ ?_
      ·intro mq hh o;intro nl ie nm ig nn ih;have q:=SN.st ag o;obtain⟨rfl,no,np,nq,nr,ns,nt,nu,nv,nx,ny,nz,n0,n2,n3,n4⟩:=ie;obtain⟨rfl,ii⟩:=ig;obtain⟨rfl,ij⟩:=ih;have bf:=bu.nw;refine El O O O mE O q (R8 (St.all _) (bf.mono q.ea) ii ij d4) λn5 n6 n7 j3 n8 cd p=>?_;obtain⟨rfl,ik,j4⟩:=p;exact BB ⟨cd.siz,λb hb=>cd.same b hb⟩ ⟨O,ik⟩
      refine A7.cons O ?_ ?_
      ·intro mq hh o;intro n9 il;have q:=SN.st ag o;obtain⟨rfl,im⟩:=il;refine El O O O U1 O q (Lf (St.all _) (iq (n:=0) O) im d5) λoa ob oc j5 od ce p=>?_;obtain⟨rfl,io,j6⟩:=p;exact BB ⟨ce.siz,λb hb=>ce.same b hb⟩ ⟨O,io⟩
      refine A7.cons O ?_ ?_
      ·intro mq hh o;intro oe ip;have q:=SN.st ag o;obtain⟨rfl,ir⟩:=ip;have a3:=q.fz;refine Ch O O O U3 O (K1 a3 ir d6) λog it iu iv p=>?_;obtain⟨cf,rfl,iw,d9⟩:=p;have eb:Rd it iu (A9.fnr prog (λS h vs (x:xq)=>∃w0:Value,vs=[w0]/\Sl S h AC w0 x) (λS h v (y:(xq×xq))=>∃w0 w1:Value,v= .tuple #[w0,w1]/\Sl S h AC w0 y.1/\Sl S h AC w1 y.2)) (.func (.func 196) #[] #[cf]) (λx=>AQ N ay x):=O2 196 #[cf] Uz λS' h' s' e' L hs x y vs h1 h2=>by obtain⟨w0,rfl,a0⟩:=h1;exact Qj (KD hs a0 (iw.mono'' s' e') h2)
       have bo:=Fz.done o iv d9;exact BB bo.1 (Rd.mono eb bo.2)
      refine A7.cons O ?_ ?_
      ·intro mq hh o;intro oh iy oi iz oj i0 i1 ba;have q:=SN.st ag o;obtain⟨rfl,i2⟩:=iy;obtain⟨rfl,i3⟩:=iz;obtain⟨rfl,i4⟩:=i0;have ba:Rd _ _ (A9.fnr prog (λS h vs (x:xq)=>∃w0:Value,vs=[w0]/\Sl S h AC w0 x) (λS h v (y:(xq×xq))=>∃w0 w1:Value,v= .tuple #[w0,w1]/\Sl S h AC w0 y.1/\Sl S h AC w1 y.2)) i1 (λx=>AQ N ay x):=ba;refine AU ?_;obtain⟨ec,ed,rfl,j7,j8⟩:=ba.fnr;refine GP (cs:=[vI c.J,vI c.S,vI k,(.func (.func ec) #[] ed)]) Sn O O O (AU ?_);exact B1 (A6.mk (x:=(⟨c.J,c.S,k,(λx=>AQ N ay x)⟩:AD)) i2 i3 i4 ba)
      refine A7.cons O ?_ ?_
      ·intro mq hh o;intro i5 bp;have q:=SN.st ag o;have bp:Rd _ _ A6 i5 (⟨c.J,c.S,k,(λx=>AQ N ay x)⟩:AD):=bp;have a3:=q.fz;obtain⟨i6,rfl,i7,i8,i9,ja⟩:=A6.ex bp;refine IX (cs:=[vI ((⟨c.J,c.S,k,(λx=>AQ N ay x)⟩:AD).to_),vI ((⟨c.J,c.S,k,(λx=>AQ N ay x)⟩:AD).delay),vI ((⟨c.J,c.S,k,(λx=>AQ N ay x)⟩:AD).way),i6]) Oa O O O O O O O a3 λok ol ee jb=>?_;have jc:=ja.mono jb;have ef:=ee.bxos (r:=A6) (l:=([(⟨c.J,c.S,k,(λx=>AQ N ay x)⟩:AD)]:List AD)) .head ⟨_,_,O,⟨_,O,i7,i8,i9,jc⟩,O⟩ (by simp[maxLen]);obtain⟨om,eg,oo,jd⟩:=ef.pubs .head;have bq:=Fz.done o EX eg;exact BB bq.1 ⟨Sl.mono' jd bq.2,_,O⟩
      exact trivial
     intro op je oq jf os br;have eh:=SN.st ag je;cases jf;obtain⟨br,j9,rfl⟩:=br;obtain⟨ei,E⟩:=MF E;refine Eg (r:=A6) (l:=l9) (xs:=([(⟨c.J,c.S,k,(λx=>AQ N ay x)⟩:AD)]:List AD)) O O Oa O (Sl.src br) O ei O eh (λ_=>(.tail .head)) λjg ot ej ou=>AU ?_;refine BF (WF.nil (λaa ww hf hw=>?_));have ek:=ej.sel [1,1,1,1,1,1,1,1,1,1,1] 1 O;exact⟨jg,(l9++([(⟨c.J,c.S,k,(λx=>AQ N ay x)⟩:AD)]:List AD)),_,_,hf.sub (kp [14,13,0,1,15,5] O),hw,ek,EX,E⟩
    refine AU ?_;refine BF (WF.nil (λaa ww hf hw=>?_));have el:=ag.sel [1,1,1,1,1,1,1,1,1,1,1] 1 O;exact⟨v8,l9,_,_,hf.sub (kp [14,13,0,1,15,5] O),hw,el,EX,E⟩
   rintro aa ww⟨bs,bt,ov,ow,hf,hw,em,ox,E⟩;refine AL ?_ hf hw;clear hf hw ww aa;rw[EU]at E;refine AU ?_;refine WF.nil (λaa ww hf hw=>?_);exact⟨bs,bt,(BO (k+1)),_,_,hf.sub (kp [14,13,0,1,5,15] O),hw,em,EX,(BQ _),E⟩
  refine BL O (λaa ww hf hw=>?_);exact⟨v8,l9,_,_,hf.sub (kp [5] O),hw,b1,e0,E⟩
 rintro aa ww⟨v2,l3,oy,oz,hf,hw,en,o0,E⟩;refine AL ?_ hf hw;clear hf hw ww aa;rw[D4]at E;refine AU ?_;cases E;exact GF en O O EX
def JX(C:St S L h)(m:AB b){r:List AD}(E:Cp N b=some r):
 CG prog 189 #[vN,vI b] S h (λv S' h'=>St S' (OS A6 194 v r::L) h'):=by
 refine CG.go (l:=[vN,vI b]) 27 func189 O ntmps189 O λB=>?_;rw[Cp]at E;refine Cr (Cm O (kp [0,1] O) (CU (Cr (AE O (J1 O (E9 (kp [6,0,1] O) (AK O E (λD E=>?_) (λD E=>?_))))))))
 ·cases E
 refine D7 (CU (Cr (AE O (AE O (cC O RY.1 O (AE O (Qs O RY.1 O (QV O (QV O (Cm O (kp [1,0] O) (Cr (AE O (LP O (E9 (kp [16,1,0] O) (It (λa w=>∃(p:Value)(s:List AD),IV B S h (27,[]) a w [(0,p)] (OS A6 194 p s::L) λ_ _=>CX N s=some r) ?_ ?_)))))))))))))))
 ·refine AK O E (λF E=>?_) (λF E=>?_)
  ·refine Cj (AN 5 (AE O (AE O (cC O RY.1 O (Aaj O O RY.1 O (AE O (AG ?_)))))));obtain⟨t,E⟩:=MF E;obtain⟨u,E⟩:=MF E;refine sA O O Oa Ae2 (Aie t) u O O C λG H I J K x y g z=>AN 4 (AE O (Qs O RY.1 O (Aai O O RY.1 O ?_)));have i:=St.bxosc (r:=A6) (l:=([]:List AD)) g (Agr _) x y jD;refine DV O (AG (LF.nil (kp [0] O) (WF.nil (λn o c d=>?_))));exact⟨(.slice (some ⟨G,0,none⟩) 0 H),([]:List AD),_,_,c.sub (kp [0] O),d,i,z,E⟩
  refine D7 (WF.nil (λn o c d=>?_));have j:=C.nil A6 194;exact⟨(vN),([]:List AD),_,_,c.sub (kp [0] O),d,j,(CO.refl S h),E⟩
 rintro n o⟨p,s,M,Q,c,d,k,A,E⟩;refine AL ?_ c d;clear c d o n;rw[CX]at E;refine Cr (AE O (Cm O (kp [4] O) (CM (λn o c d=>?_))));cases E;exact T0 c d O O A k
def I4(hs:St S L h){b:List (List AD)}(d:Sl S h (A9.sl A6) c b){r:List AD}(E:Cb N b=some r):
 CG prog 121 #[c] S h (λv S' h'=>St S' (OS A6 194 v r::L) h'):=by
 refine CG.go 36 func121 O ntmps121 O λB=>?_;rw[Cb]at E;refine AU ?_;refine AT (λa w=>∃(V:Int),IV B S h (36,[]) a w [(0,c),(3,vI V)] (L) λ_ _=>AB V/\CR N b V=some r) ?_ ?_
 ·refine A0 (λn1=>λa w=>∃(D:Int)(o:Int),IV B S h (36,[]) a w [(10,vI (↑b.length:Int)),(9,c),(0,c),(3,vI D),(11,vI o)] (L) λ_ _=>AB D/\AB o/\CB N b (CR N b) n1 D o=some r) N ?_ ?_ ?_
  ·intro j k g i;exact⟨0,0,_,_,g.sub (kp [10,9,0,3,11] O),i,hs,(CO.refl S h),(iq (n:=0) O),(iq (n:=0) O),E⟩
  ·rintro j k⟨_,_,_,_,_,_,_,_,_,_,E⟩;rw[CB]at E;cases E
  rintro n1 j k⟨D,o,ai,aj,g,i,t,x,r9,ak,E⟩;refine AL ?_ g i;clear g i k j;rw[CB]at E;refine AU ?_;refine AK O E (λW E=>?_) (λW E=>?_)
  ·refine AU ?_;refine AW (AU ?_);have X:=d.mono' x;refine BE E O O X iP.1 O λY E al am=>AU ?_;refine AK O E (λZ E=>?_) (λZ E=>?_)
   ·cases E
   refine AU ?_;refine BF (AU ?_);refine WF.nil (λj k g i=>?_);exact⟨(BO (D+(↑Y.length:Int))),(BO (o+1)),_,_,g.sub (kp [10,9,0,3,11] O),i,t,x,(BQ _),(BQ _),E⟩
  refine BL O (λj k g i=>?_);exact⟨D,_,_,g.sub (kp [0,3] O),i,t,x,r9,E⟩
 rintro j k⟨V,an,ao,g,i,F,ap,r3,E⟩;refine AL ?_ g i;clear g i k j;rw[CR]at E;refine AU ?_;refine Cj (AU ?_);refine DX E O O O yU O (λG H=>JX F r3 H) λG E ab y z aq p=>?_;have I:=p;have ac:=d.nw;refine AU ?_;refine AT (λa w=>∃(A:Value)(C:List AD),IV B y z (36,[]) a w [(6,A)] (OS A6 194 A C::L) λ_ _=>C7 N C=some r) ?_ ?_
 ·refine A0 (λn3=>λa w=>∃(s:Value)(m:List AD)(q:Int),IV B y z (36,[]) a w [(26,vI (↑b.length:Int)),(25,c),(6,s),(27,vI q)] (OS A6 194 s m::L) λ_ _=>AB q/\CA N b (C7 N) n3 m q=some r) N ?_ ?_ ?_
  ·intro j k g i;exact⟨ab,G,0,_,_,g.sub (kp [26,25,6,27] O),i,I,(CO.refl y z),(iq (n:=0) O),E⟩
  ·rintro j k⟨_,_,_,_,_,_,_,_,_,_,E⟩;rw[CA]at E;cases E
  rintro n3 j k⟨s,m,q,ar,au,g,i,u,J,av,E⟩;refine AL ?_ g i;clear g i k j;rw[CA]at E;refine AU ?_;refine AK O E (λad E=>?_) (λad E=>?_)
  ·refine AU ?_;refine AW (AU ?_);have ae:=ac.mono' J;refine BE E O O ae iP.1 O λK E aw af=>?_;obtain⟨ax,_,ag⟩:=af.ll;refine AU ?_;obtain⟨M,E⟩:=MF E;refine Eg (r:=A6) (l:=m) (xs:=K) O O Oa O (Sl.src ag) O M O u (λ_=> .head) λah ay Q az=>AU ?_;refine BF (AU ?_);refine WF.nil (λj k g i=>?_);exact⟨ah,(m++K),(BO (q+1)),_,_,g.sub (kp [26,25,6,27] O),i,Q,EX,(BQ _),E⟩
  refine BL O (λj k g i=>?_);exact⟨s,m,_,_,g.sub (kp [6] O),i,u,J,E⟩
 rintro j k⟨A,C,a0,a1,g,i,U,a2,E⟩;refine AL ?_ g i;clear g i k j;rw[C7]at E;refine AU ?_;cases E;exact GF U O O EX
def NW(X:St S L h){d:xq}(q:Sl S h AC c d){g:Value}(s:Rd S h (A9.fn prog (λx:Int=>([vI x]:List Value)) (λx:Int=>AB x) (λy:Bool=> .bool y) (λy:Bool=>True)) g k)(E:GK N d k=some r):
 CG prog 111 #[c,g] S h (λv S' h'=>v=vI r/\AB r/\St S' (L) h'):=by
 refine CG.go 19 func111 O ntmps111 O λB=>?_;rw[GK]at E;obtain⟨F,G,rfl,H,I⟩:=s.fn;refine AU ?_;refine AT (λa w=>IV B S h (19,[]) a w [] (L) λ_ _=>FD N=some r) ?_ ?_
 ·refine A0 (λV=>λa w=>∃(z:Int),IV B S h (19,[]) a w [(7,vI (↑d.length:Int)),(0,c),(1,(.func (.func F) #[] G)),(8,vI z)] (L) λ_ _=>AB z/\Dn N d k (FD N) V z=some r) N ?_ ?_ ?_
  ·intro t u l m;exact⟨0,_,_,l.sub (kp [7,0,1,8] O),m,X,(CO.refl S h),(iq (n:=0) O),E⟩
  ·rintro t u⟨_,_,_,_,_,_,_,_,E⟩;rw[Dn]at E;cases E
  rintro V t u⟨z,Y,Z,l,m,j,p,r9,E⟩;refine AL ?_ l m;clear l m u t;rw[Dn]at E;refine AU ?_;refine AK O E (λJ E=>?_) (λJ E=>?_)
  ·refine AU ?_;refine AW (AU ?_);refine CP (.inl O) j (AU ?_);have K:=q.mono' p;refine BE E O O K CW.1 O λab E ac M=>?_;have Q:=M.i;refine AU ?_;obtain⟨ad,A,E⟩:=bd E;refine Jk O O O H O (λh' o=>I _ h' (λb D=>Ag6 (j.1 b (p.sub b D)) o.siz) (λb D=>(o.same b (j.1 b (p.sub b D))).trans (p.same b D)) [] (St.all h') _ _ Q A) (BW (kp [16,5,7,0,1,8] O) λae C af=>AK O E (λU E=>?_) (λU E=>?_))
   ·exact RT
   refine AU ?_;refine BF (AU ?_);refine WF.nil (λt u l m=>?_);exact⟨(BO (z+1)),_,_,l.sub (kp [7,0,1,8] O),m,C,EX,(BQ _),E⟩
  refine BL O (λt u l m=>?_);exact⟨_,_,l.sub Ts,m,j,p,E⟩
 rintro t u⟨ag,ah,l,m,W,ai,E⟩;refine AL ?_ l m;clear l m u t;rw[FD]at E;exact RT
def Mi(j:St S L h){a:Value}{g:xq}(d:Sl S h AC a g){b:Value}{i:Int->Option Bool}(c:Rd S h (A9.fn prog (λx:Int=>([vI x]:List Value)) (λx:Int=>AB x) (λy:Bool=> .bool y) (λy:Bool=>True)) b i){r:Bool}(E:Gt N g i=some r):
 CG prog 224 #[a,b] S h (λv S' h'=>v= .bool r/\St S' (L) h'):=by
 refine CG.go 9 func224 O ntmps224 O λB=>?_;rw[Gt]at E;obtain⟨l,m,rfl,n,p⟩:=c.fn;refine AU ?_;refine CP (.inl O) j (AU ?_);refine DO E O O O mN O (λq k h' o=>NW (St.all h') (d.mono' (o.all j.1)) (c.mono (o.all j.1)) k) λq E s=>?_;have w:=s;refine AU ?_;exact BW (kp [4] O) λz t u=>RT
def Sw(c:St S L h)(b:AB a){r:Bool}(E:JI N a=some r):
 CG prog 225 #[vI a] S h (λv S' h'=>v= .bool r/\St S' (L) h'):=by
 refine CG.go 5 func225 O ntmps225 O λB=>?_;rw[JI]at E;exact RT
def Uc(z:St S L h)(j:AB b)(m:AB a){g:xq}(d:Sl S h AC c g){r:List AY}(E:MU N b a g=some r):
 CG prog 194 #[vN,vI b,vI a,c] S h (λv S' h'=>St S' (OS A5 103 v r::L) h'):=by
 refine CG.go 32 func194 O ntmps194 O λB=>?_;rw[MU]at E;refine AU ?_;refine Qs O On.1 O (AU ?_);refine Qs O On.1 O (AU ?_);refine AN 1 (rF O O O On.1 O (AU ?_));refine CP (.inl O) z (AU ?_);obtain⟨Z,i,E⟩:=bd E;refine A3 4 22 (.bool Z) ?_ ?_
 ·cases X:(decide (a<0))
  ·have i:=Hl X i;refine AU ?_;have M:Rd S h (A9.fn prog (λx:Int=>([vI x]:List Value)) (λx:Int=>AB x) (λy:Bool=> .bool y) (λy:Bool=>True)) (.func (.func 225) #[] #[]) (λx=>JI N x):=Rd.ofFn 225 #[] yL λS' h' s' e' L z x y h1 h2=>(Sw z h1 h2).mono λ_ _ _ _ p=>⟨p.1,trivial,p.2⟩
   refine BD i O O O yM O (λy4 Q h' o=>Mi (St.all h') (d.mono' (o.all z.1)) (M.mono (o.all z.1)) Q) λy4 i=>AU ?_;cases i;exact A4 O
  have i:=Hk X i;cases i;exact BK O O
 refine BW (kp [22,9,1,2,3] O) λh6 n e8=>AK O E (λc9 E=>?_) (λc9 E=>?_)
 ·refine AU ?_;have A:=n.nil A5 103;cases E;exact GF A O O EX
 refine AU ?_;refine Cj (AU ?_);have U:=d.mono' e8;refine Dc E O O O N9 O n (λu C=>B9 (St.all _) (U.mono n.ea.1 n.ea.2) C) λu E aa ab ac Y ad V p=>?_;have D:=p;have s:=n.join V D ⟨OS.flat (λ{_ _ _ _ _ _} k=>k),trivial⟩;simp only[Ag4,Ag3]at s;refine AU ?_;obtain⟨w,t,rfl,ae⟩:=s.oslen mh;refine GP (cs:=[vI b,vI a,(.slice w u.length t)]) iG O O O (AU ?_);refine IX (cs:=[vI b,vI a,(.slice w u.length t)]) Te O O O O O O O s λaf ag F ah=>?_;have G:=F.nil A5 103;obtain⟨ai,H,aj,W⟩:=G.pubs (.tail (.tail .head));obtain⟨I,E⟩:=MF E;refine LQ (r:=A5) (l:=([]:List AY)) (xs:=([(⟨b,a,u⟩:AY)]:List AY)) O O Te O (mt mh) ⟨_,_,O,⟨_,O,j,m,W⟩,O⟩ O O I O H (λ_=> .head) λak al J am=>?_;have K:=J.drop (.tail .head);refine AU ?_;cases E;exact GF K O O EX
def Lt{d:Nat}{z:Value}{W:Value}(hs:St S (Bx d 112 [.string xj.b.G,ai,vI xj.b.L,aj,ak,ae,am,an,ao,ap,vI xj.b.M,Z,ab,ac,af,ag,vI xj.s.B,t,u,w,z,H,ar,ax,W,aq]::OS (A9.sl AC) 29 t xj.s.D::OS AC 3 u xj.s.P::OS A5 103 w xj.s.F::OS BZ 107 z xj.s.Q::OS AC 3 H xj.s.K::OS AC 3 ar xj.s.O::OS BY 116 ax xj.moves::OS AC 3 W xj.peaks::OS A5 103 aq xj.sent::L) h)(db:xj.b.G.size<=maxLen)(dc:Sl S h A9.str ai xj.b.I)(dd:AB xj.b.L)(de:Sl S h B4 aj xj.b.A)(df:Sl S h CD ak xj.b.E)(dg:Sl S h Hj ae xj.b.Af)(dh:Sl S h E7 am xj.b.Ah)(di:Sl S h HC an xj.b.Ai)(dj:Sl S h Db ao xj.b.Ak)(dk:Sl S h AC ap xj.b.Aj)(b8:AB xj.b.M)(b9:Sl S h AC Z xj.in_.U)(ca:Sl S h Ct ab xj.in_.Ab)(cb:Sl S h Fj ac xj.in_.Ac)(cc:Sl S h DU af xj.in_.V)(cd:Sl S h Di ag xj.in_.Ad)(ce:AB xj.s.B)(bx:AB g){c:AD}(bz:Rd S h A6 a6 c){r:(List xq)×xq×(List AM)×(List AY)}(E:ID N xj g c=some r):
 CG prog 124 #[vP d 0,vI g,a6] S h (λv S' h'=>∃a7 a8 a9 ba:Value,v= .tuple #[]/\St S' (Bx d 112 [.string xj.b.G,ai,vI xj.b.L,aj,ak,ae,am,an,ao,ap,vI xj.b.M,Z,ab,ac,af,ag,vI xj.s.B,a7,u,w,z,H,a8,a9,W,ba]::OS (A9.sl AC) 29 a7 r.1::OS AC 3 u xj.s.P::OS A5 103 w xj.s.F::OS BZ 107 z xj.s.Q::OS AC 3 H xj.s.K::OS AC 3 a8 r.2.1::OS BY 116 a9 r.2.2.1::OS AC 3 W xj.peaks::OS A5 103 ba r.2.2.2::L) h'):=by
 refine CG.go 89 func124 O ntmps124 O λB=>?_;rw[ID]at E;refine AU ?_;refine CC O bz CE O hs λq1 S2 h3 ah e5 k6=>AU ?_;refine Rq (kp [5,0,1] O) ?_;obtain⟨ic,dl,E⟩:=bd E;obtain⟨cf,dm,E⟩:=bd E;obtain⟨j,dn,E⟩:=bd E;refine bJ (m:=[(5,q1),(0,vP d 0),(1,vI g)]) [] [] [] (λX i v n=>match i with|0=>Pt S2 n (A9.fnr prog (λS h vs (x:xq)=>∃w0:Value,vs=[w0]/\Sl S h AC w0 x) (λS h v (y:(xq×xq))=>∃w0 w1:Value,v= .tuple #[w0,w1]/\Sl S h AC w0 y.1/\Sl S h AC w1 y.2)) v c.take|1=>Rd S2 n (A9.fnr prog (λS h vs (x:xq)=>∃w0:Value,vs=[w0]/\Sl S h AC w0 x) (λS h v (y:(xq×xq))=>∃w0 w1:Value,v= .tuple #[w0,w1]/\Sl S h AC w0 y.1/\Sl S h AC w1 y.2)) v c.take|2=>v=vP d 0|3=>v=vP d 0|4=>v=vP d 16|5=>v=vP d 17|6=>v=t|7=>v=vI g/\AB g|8=>EP t (g.toNat*((A9.sl AC)).sz+0) v|9=>Sl S2 n AC v cf|10=>∃w0 w1:Value,v= .tuple #[w0,w1]/\(Sl (SX S2 h3 n X) n AC w0 j.1)/\(Sl (SX S2 h3 n X) n AC w1 j.2)|11=>∃w0 w1:Value,v= .tuple #[w0,w1]/\(Sl (SX S2 h3 n X) n AC w0 j.1)/\(Sl (SX S2 h3 n X) n AC w1 j.2)|12=>Sl (SX S2 h3 n X) n AC v j.1|13=>Sl (SX S2 h3 n X) n AC v j.2|14=>Sl (SX S2 h3 n X) n AC v j.1|15=>Sl (SX S2 h3 n X) n AC v j.2|_=>False) [[],[(0,9)],[],[(2,11)],[(3,12)],[(4,13)],[(5,14)],[],[(6,15),(7,16)],[(8,17)],[(1,10),(9,18)],[(10,19)],[(11,8)],[(11,8)],[(12,20)],[(13,21)]] [(14,6),(15,7)] mo Γ [5,0,1] O Γ Γ Γ O (kp [5,0,1] O) (λi v h1 h2 X X' o1 o2 u1 u2 hr=>?_) Γ bI ?_ ?_ ?_
 ·match i,hr with
   |0,hr=>exact(OJ.mono hr (o2.ext λb hb=>Ag6 (ah.1 b hb) o1.siz))
   |1,hr=>exact(Rd.mono hr (o2.ext λb hb=>Ag6 (ah.1 b hb) o1.siz))
   |2,hr|3,hr|4,hr|5,hr|6,hr|7,hr|8,hr=>exact hr
   |9,hr=>exact(Sl.mono' hr (o2.ext λb hb=>Ag6 (ah.1 b hb) o1.siz))
   |10,hr|11,hr=>obtain⟨w0,w1,e,k0,k1⟩:=hr;exact⟨w0,w1,e,(Sl.mono' k0 (SX.mono ah.1 o1 o2 u1 u2)),(Sl.mono' k1 (SX.mono ah.1 o1 o2 u1 u2))⟩
   |12,hr|13,hr|14,hr|15,hr=>exact(Sl.mono' hr (SX.mono ah.1 o1 o2 u1 u2))
   |_+16,hr=>exact hr.elim
 ·exact trivial
 ·refine Fh.cons O O O ?_ ?_
  ·intro X mq n o hX;have q:=o.st ah;have fn:=k6.mono (o.ext ah.1);have fo:=fn.fl OT;refine AU ?_;exact B1 fo
  refine Fh.cons O O O ?_ ?_
  ·intro X mq n o hX;intro fp cg;have q:=o.st ah;have cg:Pt _ _ (A9.fnr prog (λS h vs (x:xq)=>∃w0:Value,vs=[w0]/\Sl S h AC w0 x) (λS h v (y:(xq×xq))=>∃w0 w1:Value,v= .tuple #[w0,w1]/\Sl S h AC w0 y.1/\Sl S h AC w1 y.2)) fp c.take:=cg;refine AU ?_;refine Lh H4 q.1 O cg vF.1 (λ_=>rfl) O λie fq=>AU ?_;exact B1 fq
  refine Fh.cons O O O ?_ ?_
  ·intro X mq n o hX;have q:=o.st ah;refine AU ?_;exact B1 O
  refine Fh.cons O O O ?_ ?_
  ·intro X mq n o hX;intro ig fr;have q:=o.st ah;cases fr;refine AU ?_;exact B1 O
  refine Fh.cons O O O ?_ ?_
  ·intro X mq n o hX;intro ih fs;have q:=o.st ah;cases fs;refine AU ?_;exact B1 O
  refine Fh.cons O O O ?_ ?_
  ·intro X mq n o hX;intro ii ft;have q:=o.st ah;cases ft;refine AU ?_;exact B1 O
  refine Fh.cons O O O ?_ ?_
  ·intro X mq n o hX;intro ij fu;have q:=o.st ah;cases fu;refine AU ?_;exact B1 O
  refine Fh.cons O O O ?_ ?_
  ·intro X mq n o hX;have q:=o.st ah;refine AU ?_;exact B1 ⟨O,bx⟩
  refine Fh.cons O O O ?_ ?_
  ·intro X mq n o hX;intro ik fv il fw;have q:=o.st ah;cases fv;obtain⟨rfl,im⟩:=fw;refine AU ?_;refine BU q (mt mh) O O Js.1 dl O λio dp=>AU ?_;exact B1 dp
  refine Fh.cons O O O ?_ ?_
  ·intro X mq n o hX;intro ip fx;have q:=o.st ah;refine AU ?_;have fy:=q.epAt (mt mh) dm FB.id fx;refine GB H4 (λ_ x=>x) O fy GC.1 O λir f0=>AU ?_;exact B1 f0
  refine Fh.cons O O O ?_ ?_
  ·intro X mq n o hX;intro f1 be f2 bf;have q:=Nb (X:=X) ah o;have be:=Rd.mono (S':=(SX S2 h3 n X)) be ⟨λb hb=>(SX.ext ah.1 o hX).sub b hb,λ_ _=>rfl,Ag5 _⟩;have be:Rd _ _ (A9.fnr prog (λS h vs (x:xq)=>∃w0:Value,vs=[w0]/\Sl S h AC w0 x) (λS h v (y:(xq×xq))=>∃w0 w1:Value,v= .tuple #[w0,w1]/\Sl S h AC w0 y.1/\Sl S h AC w1 y.2)) f1 c.take:=be;have bf:=Sl.mono' (S':=(SX S2 h3 n X)) bf ⟨λb hb=>(SX.ext ah.1 o hX).sub b hb,λ_ _=>rfl,Ag5 _⟩;have bf:Sl _ _ AC f2 cf:=bf;have bg:=q.fz;obtain⟨gn,gp,rfl,dq,dr⟩:=be.fnr;refine Ch O O O dq O (dr _ _ (λb hb=>(CO.refl (SX S2 h3 n X) n).sub b hb) (λb hb=>(CO.refl (SX S2 h3 n X) n).same b hb) _ bg cf _ _ ⟨_,O,bf⟩ dn) λit iu iv f3 p=>?_;obtain⟨⟨iw,iy,rfl,f4,f5⟩,ds⟩:=p;have bh:=SX.done o hX f3 ds;exact BB bh.1 ⟨_,_,O,(Sl.mono' f4 bh.2),(Sl.mono' f5 bh.2)⟩
  refine Fh.cons O O O ?_ ?_
  ·intro X mq n o hX;intro iz f6;have q:=Nb (X:=X) ah o;obtain⟨f7,f8,rfl,ch,ci⟩:=f6;have ch:Sl _ _ AC f7 j.1:=ch;have ci:Sl _ _ AC f8 j.2:=ci;refine AU ?_;exact B1 ⟨_,_,O,ch,ci⟩
  refine Fh.cons O O O ?_ ?_
  ·intro X mq n o hX;intro i0 f9;have q:=Nb (X:=X) ah o;obtain⟨ga,gb,rfl,cj,dt⟩:=f9;have cj:Sl _ _ AC ga j.1:=cj;have dt:Sl _ _ AC gb j.2:=dt;refine AU ?_;exact B1 cj
  refine Fh.cons O O O ?_ ?_
  ·intro X mq n o hX;intro i1 gc;have q:=Nb (X:=X) ah o;obtain⟨ge,gf,rfl,du,ck⟩:=gc;have du:Sl _ _ AC ge j.1:=du;have ck:Sl _ _ AC gf j.2:=ck;refine AU ?_;exact B1 ck
  refine Fh.cons O O O ?_ ?_
  ·intro X mq n o hX;intro gg cl;have q:=Nb (X:=X) ah o;have cl:Sl _ _ AC gg j.1:=cl;refine AU ?_;exact B1 cl
  refine Fh.cons O O O ?_ ?_
  ·intro X mq n o hX;intro gh bi;have q:=Nb (X:=X) ah o;have bi:Sl _ _ AC gh j.2:=bi;refine AU ?_;exact B1 bi
  exact trivial
 intro av aw dv cm bj az dw bk gi gj;have bl:=(nU.nil ah dv cm).st;have az:Sl _ _ AC bj j.1:=az;have bk:Sl _ _ AC dw j.2:=bk;refine AU ?_;obtain⟨gq,cn,E⟩:=bd E;refine BU bl (mt mh) O O Js.1 cn O λgr co=>AU ?_;obtain⟨dx,cp,E⟩:=bd E;refine Ei (r:=(A9.sl AC)) (l:=xj.s.D) (i:=g) (x:=dx) O O (Kx bk) co cp NQ.id GC.1 (λ_=>rfl) bl (.tail .head) λgs bm dy=>AU ?_;refine CP (.inl O) bm (AU ?_);have dz:=az.mono' dy;refine DO E O O O OR O (λd0 cq h' o=>ES (St.all h') (dz.mono' (o.all bm.1)) cq) λd0 E d1=>?_;have gu:=d1;refine AU ?_;refine BW (kp [32,6,5,0,1] O) λay au gv=>AK O E (λd2 E=>?_) (λd2 E=>?_)
 ·refine CM (λaa ww hf hw=>?_);cases E;exact K0 hf O hw Kz O EX ⟨_,_,_,_,O,au⟩
 refine AU ?_;refine U5 (m:=[(6,bj),(5,q1),(0,vP d 0),(1,vI g)]) 18 [0] (λi v n=>match i with|0=>v=vP d 0|1=>v=vP d 0|2=>v=vP d 0|3=>v=vP d 23|4=>v=ax|5=>v=vP d 0|6=>v=vP d 0|7=>v=vP d 16|8=>v=vP d 16|9=>v=vI xj.s.B/\AB xj.s.B|10=>v=vI g/\AB g|11=>Pt (SX S2 h3 av aw) n AC v c.to_|12=>v=vI c.to_/\AB c.to_|13=>Pt (SX S2 h3 av aw) n AC v c.way|14=>v=vI c.way/\AB c.way|15=>Sl (SX S2 h3 av aw) n AC v j.1|16=>Rd (SX S2 h3 av aw) n BY v (⟨xj.s.B,g,c.to_,c.way,j.1⟩:AM)|17=>Sl (SN (SX S2 h3 av aw) ay n) n BY v ([(⟨xj.s.B,g,c.to_,c.way,j.1⟩:AM)]:List AM)/\∃ad,v= .slice (some ad) 1 1|_=>False) [[],[],[(1,34)],[(2,35)],[(3,36)],[],[(5,38)],[(6,39)],[(7,40)],[(8,41)],[],[],[(11,44)],[],[(13,46)],[],[(9,42),(10,43),(12,45),(14,47),(15,48)],[(16,49)]] [(0,33),(4,37),(17,50)] mo Γ [6,5,0,1] O Γ Γ Γ (kp [6,5,0,1] O) MO ?_ ?_ ?_
 ·refine TQ.cons [] Γ O O Γ ?_ ?_
  ·intro mq n o;intro a hf;exact⟨vP d 0,Oh hf O,O⟩
  exact trivial
 ·refine A7.cons O F9 (A7.cons O F9 (A7.cons O F9 (A7.cons O F9 (A7.cons O F9 (A7.cons O F9 (A7.cons O F9 (A7.cons O F9 (A7.cons O F9 (A7.cons O F9 (A7.cons O F9 (A7.cons O ?_ ?_)))))))))))
  ·intro mq n o;have q:=o.st au;have d3:=k6.nw;have d4:=d3.fl Mz;refine AU ?_;exact B1 d4
  refine A7.cons O ?_ ?_
  ·intro mq n o;intro d5 bn;have q:=o.st au;have bn:Pt _ _ AC d5 c.to_:=bn;have d6:=bn.i;refine AU ?_;exact B1 ⟨O,d6⟩
  refine A7.cons O ?_ ?_
  ·intro mq n o;have q:=o.st au;have d7:=k6.nw;have d8:=d7.fl O3;refine AU ?_;exact B1 d8
  refine A7.cons O ?_ ?_
  ·intro mq n o;intro d9 bo;have q:=o.st au;have bo:Pt _ _ AC d9 c.way:=bo;have eb:=bo.i;refine AU ?_;exact B1 ⟨O,eb⟩
  refine A7.cons O ?_ ?_
  ·intro mq n o;have q:=o.st au;refine AU ?_;have ec:=az.nw;exact B1 ec
  refine A7.cons O ?_ ?_
  ·intro mq n o;intro gw ed gx ee gy ef gz eg eh bb;have q:=o.st au;obtain⟨rfl,ei⟩:=ed;obtain⟨rfl,ej⟩:=ee;obtain⟨rfl,ek⟩:=ef;obtain⟨rfl,el⟩:=eg;have bb:Sl _ _ AC eh j.1:=bb;refine AU ?_;obtain⟨cr,b0,rfl,g0⟩:=(bb).len;refine GP (cs:=[vI xj.s.B,vI g,vI c.to_,vI c.way,(.slice cr j.1.length b0)]) iF O O O (AU ?_);exact B1 (BY.mk (x:=(⟨xj.s.B,g,c.to_,c.way,j.1⟩:AM)) ei ej ek el bb)
  refine A7.cons O ?_ ?_
  ·intro mq n o;intro em a1;have q:=SN.st au o;have a1:=Rd.mono (S':=(SN (SX S2 h3 av aw) ay n)) a1 ⟨λb hb=> .inl hb,λ_ _=>rfl,Ag5 _⟩;have a1:Rd _ _ BY em (⟨xj.s.B,g,c.to_,c.way,j.1⟩:AM):=a1;have bg:=q.fz;obtain⟨g1,rfl,en,eo,ep,eq,b4⟩:=BY.ex a1;obtain⟨ct,b1,rfl,g2⟩:=(b4).len;refine IX (cs:=[vI ((⟨xj.s.B,g,c.to_,c.way,j.1⟩:AM).B),vI ((⟨xj.s.B,g,c.to_,c.way,j.1⟩:AM).J),vI ((⟨xj.s.B,g,c.to_,c.way,j.1⟩:AM).C),vI ((⟨xj.s.B,g,c.to_,c.way,j.1⟩:AM).Be),(.slice ct ((⟨xj.s.B,g,c.to_,c.way,j.1⟩:AM).N).length b1)]) YS O O O O O O O bg λg3 g4 cu er=>?_;have es:=b4.mono' er;have cv:=cu.bxos (r:=BY) (l:=([(⟨xj.s.B,g,c.to_,c.way,j.1⟩:AM)]:List AM)) .head ⟨_,_,O,⟨_,O,en,eo,ep,eq,es⟩,O⟩ (by simp[maxLen]);obtain⟨g5,cw,g6,eu⟩:=cv.pubs .head;have bp:=Fz.done o EX cw;exact BB bp.1 ⟨Sl.mono' eu bp.2,_,O⟩
  exact trivial
 intro a2 ev g7 ew g8 ey g9 bq;have cx:=SN.st au ev;cases ew;cases ey;obtain⟨bq,gl,rfl⟩:=bq;obtain⟨cy,E⟩:=MF E;refine Eg (r:=BY) (l:=xj.moves) (xs:=([(⟨xj.s.B,g,c.to_,c.way,j.1⟩:AM)]:List AM)) O O YS O (Sl.src bq) O cy O cx (λ_=>(.tail (.tail (.tail (.tail (.tail (.tail (.tail .head)))))))) λha hc br hd=>AU ?_;obtain⟨a4,a0,rfl,he⟩:=br.oslen (mt (mt (mt (mt (mt (mt (mt mh)))))));refine Gq (cs':=[.string xj.b.G,ai,vI xj.b.L,aj,ak,ae,am,an,ao,ap,vI xj.b.M,Z,ab,ac,af,ag,vI xj.s.B,t,u,w,z,H,ar,(.slice a4 (xj.moves++([(⟨xj.s.B,g,c.to_,c.way,j.1⟩:AM)]:List AM)).length a0),W,aq]) O O O O gE.1 O br .head O O λb5 Y hg=>?_;have b6:=k6.nw;refine AU ?_;refine AK O E (λez E=>?_) (λez E=>?_)
 ·refine AU ?_;refine Cj (AU ?_);have e0:=az.nw;refine Dc E O O O ZU O Y (λb7 cz=>PD (St.all _) (Y.oslAll (mt (mt (mt (mt (mt (mt mh))))))) (e0.mono Y.ea.1 Y.ea.2) cz) λb7 E hi hj hk gm hl e1 p=>?_;have c0:=p;have a5:=Y.join e1 c0 ⟨OS.flat (λ{_ _ _ _ _ _} k=>k),trivial⟩;simp only[Ag4,Ag3]at a5;refine AU ?_;obtain⟨c1,b2,rfl,hm⟩:=a5.oslen mh;refine Gq (cs':=[.string xj.b.G,ai,vI xj.b.L,aj,ak,ae,am,an,ao,ap,vI xj.b.M,Z,ab,ac,af,ag,vI xj.s.B,t,u,w,z,H,(.slice c1 b7.length b2),(.slice a4 (xj.moves++([(⟨xj.s.B,g,c.to_,c.way,j.1⟩:AM)]:List AM)).length a0),W,aq]) O O O O GC.1 O a5 (.tail .head) O O λhn c2 ho=>AU ?_;refine CM (λaa ww hf hw=>?_);have c3:=c2.sel [1,1,1,1,1,1,0,1,1,1] 1 O;cases E;exact K0 hf O hw Kz O EX ⟨_,_,_,_,O,c3⟩
 refine AU ?_;obtain⟨bc,c4,E⟩:=bd E;refine U5 (m:=[(6,bj),(5,q1),(0,vP d 0)]) 18 [0] (λi v n=>match i with|0=>v=vP d 0|1=>v=vP d 0|2=>v=vP d 0|3=>v=vP d 25|4=>v=aq|5=>v=vP d 0|6=>v=vP d 0|7=>v=vP d 16|8=>v=vP d 16|9=>v=vI xj.s.B/\AB xj.s.B|10=>v=vI (BO (xj.s.B+1))/\AB (BO (xj.s.B+1))|11=>Pt (SN (SX S2 h3 av aw) ay a2) n AC v c.delay|12=>v=vI c.delay/\AB c.delay|13=>v=vI (BO ((BO (xj.s.B+1))+c.delay))/\AB (BO ((BO (xj.s.B+1))+c.delay))|14=>Pt (SN (SX S2 h3 av aw) ay a2) n AC v c.to_|15=>v=vI c.to_/\AB c.to_|16=>Sl (SN (SX S2 h3 av aw) ay a2) n AC v j.1|17=>Sl (SN (SN (SX S2 h3 av aw) ay a2) b5 n) n A5 v bc|_=>False) [[],[],[(1,69)],[(2,70)],[(3,71)],[],[(5,73)],[(6,74)],[(7,75)],[(8,76)],[(9,77)],[],[(11,79)],[(10,78),(12,80)],[],[(14,82)],[],[(13,81),(15,83),(16,84)]] [(0,68),(4,72),(17,85)] mo Γ [6,5,0] O Γ Γ Γ (kp [6,5,0] O) MO ?_ ?_ ?_
 ·refine TQ.cons [] Γ O O Γ ?_ ?_
  ·intro mq n o;intro a hf;exact⟨vP d 0,Oh hf O,O⟩
  exact trivial
 ·refine A7.cons O F9 (A7.cons O F9 (A7.cons O F9 (A7.cons O F9 (A7.cons O F9 (A7.cons O F9 (A7.cons O F9 (A7.cons O F9 (A7.cons O F9 (A7.cons O F9 (A7.cons O F9 (A7.cons O ?_ ?_)))))))))))
  ·intro mq n o;have q:=o.st Y;have e2:=b6.mono (o.ext Y.1);have e3:=e2.fl OE;refine AU ?_;exact B1 e3
  refine A7.cons O ?_ ?_
  ·intro mq n o;intro e4 bs;have q:=o.st Y;have bs:Pt _ _ AC e4 c.delay:=bs;have e6:=bs.i;refine AU ?_;exact B1 ⟨O,e6⟩
  refine A7.cons O F9 (A7.cons O ?_ ?_)
  ·intro mq n o;have q:=o.st Y;have e7:=b6.mono (o.ext Y.1);have e8:=e7.fl Mz;refine AU ?_;exact B1 e8
  refine A7.cons O ?_ ?_
  ·intro mq n o;intro e9 bt;have q:=o.st Y;have bt:Pt _ _ AC e9 c.to_:=bt;have fa:=bt.i;refine AU ?_;exact B1 ⟨O,fa⟩
  refine A7.cons O ?_ ?_
  ·intro mq n o;have q:=o.st Y;refine AU ?_;have fb:=az.nw;exact B1 fb
  refine A7.cons O ?_ ?_
  ·intro mq n o;intro hp fc hq fd fe a3;have q:=SN.st Y o;obtain⟨rfl,ff⟩:=fc;obtain⟨rfl,fg⟩:=fd;have a3:=Sl.mono' (S':=(SN (SN (SX S2 h3 av aw) ay a2) b5 n)) a3 ⟨λb hb=> .inl hb,λ_ _=>rfl,Ag5 _⟩;have a3:Sl _ _ AC fe j.1:=a3;have bg:=q.fz;refine Ch O O O yQ O (Uc bg ff fg a3 c4) λht hu hv hx p=>?_;have c5:=p;obtain⟨hy,c6,hz,fh⟩:=c5.pubs .head;have bu:=Fz.done o EX c6;exact BB bu.1 (Sl.mono' fh bu.2)
  exact trivial
 intro h0 fi h4 fj h5 fk fm bv;have c7:=SN.st Y fi;cases fj;cases fk;have bv:Sl _ _ A5 fm bc:=bv;obtain⟨c8,E⟩:=MF E;refine Eg (r:=A5) (l:=xj.sent) (xs:=bc) O O Te O (Sl.src bv) O c8 O c7 (λ_=>(.tail (.tail (.tail (.tail (.tail (.tail (.tail (.tail (.tail .head)))))))))) λh6 h7 bw h8=>AU ?_;obtain⟨c9,b3,rfl,h9⟩:=bw.oslen (mt (mt (mt (mt (mt (mt (mt (mt (mt mh)))))))));refine Gq (cs':=[.string xj.b.G,ai,vI xj.b.L,aj,ak,ae,am,an,ao,ap,vI xj.b.M,Z,ab,ac,af,ag,vI xj.s.B,t,u,w,z,H,ar,(.slice a4 (xj.moves++([(⟨xj.s.B,g,c.to_,c.way,j.1⟩:AM)]:List AM)).length a0),W,(.slice c9 (xj.sent++bc).length b3)]) O O O O Zr.1 O bw .head O O λia da ib=>AU ?_;refine WF.nil (λaa ww hf hw=>?_);cases E;exact K0 hf O hw Kz O EX ⟨_,_,_,_,O,da⟩
end Go.Proofs.YtabonambpbofgaaGreat
