import Derived.Test.YtabonambpbofgaaGreatQReps
import Derived.Test.YtabonambpbofgaaGreatQInst
import Derived.Test.YtabonambpbofgaaGreatQSortD
namespace Go.Proofs.YtabonambpbofgaaGreat
set_option linter.all false
open Go.RowKit
def LW(N:Nat):Option AF:=
 some (⟨(ByteArray.mk #[98]),([(ByteArray.mk #[111])]:List ByteArray),0,Ql,[],[],[],[],[],([0,0,0]:xq),0⟩:AF)
def BR(N:Nat)(a:xq):Option xq:=
 chk (HN (([]:xq).length+a.length) 8) <|
 some (([]:xq)++a)
def Ll(N:Nat)(a:AF)(b:Int)(c:List xq):Option AH:=
 some (⟨b,c,(List.replicate ((↑a.A.length:Int):Int).toNat (0:Int)),[],(List.replicate ((↑a.E.length:Int):Int).toNat ((⟨0,0,false,false⟩:A8):A8)),(List.replicate ((↑a.I.length:Int):Int).toNat (0:Int)),(List.replicate ((↑a.I.length:Int):Int).toNat (0:Int))⟩:AH)
def Kg(N:Nat)(c:AF)(d:(List xq)->Option AH):Nat->Int->(List xq)->Option AH
 |0,_,_=>none
 |l+1,a,b=>
 cond (decide (a<(↑c.A.length:Int))) (
 (ix c.A a).bind λg=>
 (BR N g.An).bind λi=>
 (ix b a).bind λj=>
 (ix b a).bind λk=>
 Kg N c d l (BO (a+1)) (upd b a i)) (
 d b)
def PH(N:Nat)(a:AF)(b:Int):Option AH:=
 chk (ME (↑a.A.length:Int) (↑a.A.length:Int) 24) <|
 chk (ME (↑a.A.length:Int) (↑a.A.length:Int) 8) <|
 chk (ME (↑a.E.length:Int) (↑a.E.length:Int) 24) <|
 chk (ME (↑a.I.length:Int) (↑a.I.length:Int) 8) <|
 chk (ME (↑a.I.length:Int) (↑a.I.length:Int) 8) <|
 Kg N a (Ll N a b) N 0 (List.replicate ((↑a.A.length:Int):Int).toNat ([]:xq))
def DI(N:Nat)(c:Int)(b:Int)(a:Int):Option Bool:=
 some ((decide (b<=c))&&(decide (c<=a)))
def Cz(N:Nat)(a:Int):Option Bool:=
 (DI N a 0 1125899906842624).bind λb=>
 some b
def FK(N:Nat)(a:AF)(c:Option Bool):Nat->Int->Option Bool
 |0,_=>none
 |i+1,b=>
 cond (decide (b<(↑a.Aj.length:Int))) (
 (ix a.Aj b).bind λd=>
 (Cz N d).bind λg=>
 cond (!g) (
 some false) (
 FK N a c i (BO (b+1)))) (
 c)
def Hi(N:Nat):Option Bool:=
 some true
def FM(N:Nat)(a:AF):Option Bool:=
 FK N a (Hi N) N 0
def FL(N:Nat)(a:AF)(d:Option Bool):Nat->Int->Option Bool
 |0,_=>none
 |g+1,c=>
 cond (decide (c<(↑a.G.size:Int))) (
 (bE a.G c).bind λb=>
 cond ((((decide (b<32))||(decide (126<b)))||(decide (b=34)))||(decide (b=92))) (
 some false) (
 FL N a d g (BO (c+1)))) (
 d)
def Ic(N:Nat)(a:AF):Option Bool:=
 (cond (decide (500<(↑a.G.size:Int))) (some true) ((DI N (↑a.I.length:Int) 1 16).bind λb=>
 some (!b))).bind λc=>
 (cond c (some true) ((DI N a.L 0 64).bind λd=>
 some (!d))).bind λg=>
 (cond g (some true) ((DI N (↑a.A.length:Int) 1 64).bind λi=>
 some (!i))).bind λj=>
 (cond ((((((j||(decide (96<(↑a.E.length:Int))))||(decide (40<(↑a.Af.length:Int))))||(decide (128<(↑a.Ah.length:Int))))||(decide (128<(↑a.Ai.length:Int))))||(decide (40<(↑a.Ak.length:Int))))||(decide ((↑a.Aj.length:Int)≠3))) (some true) ((DI N a.M 0 1099511627776).bind λk=>
 some (!k))).bind λl=>
 cond l (
 some false) (
 FL N a (FM N a) N 0)
def Id(N:Nat):Option Bool:=
 some true
def Gw(N:Nat)(a:ByteArray)(d:Option Bool):Nat->Int->Option Bool
 |0,_=>none
 |g+1,c=>
 cond (decide (c<(↑a.size:Int))) (
 (bE a c).bind λb=>
 cond ((((decide (b<97))||(decide (122<b)))&&((decide (b<48))||(decide (57<b))))&&(decide (b≠95))) (
 some false) (
 Gw N a d g (BO (c+1)))) (
 d)
def K7(N:Nat)(a:ByteArray):Option Bool:=
 (cond (((decide ((↑a.size:Int)<1))||(decide (24<(↑a.size:Int))))||(a==(ByteArray.mk #[111,117,116]))) (some true) ((bE a 0).bind λb=>
 some (decide (b<97)))).bind λc=>
 (cond c (some true) ((bE a 0).bind λd=>
 some (decide (122<d)))).bind λg=>
 cond g (
 some false) (
 Gw N a (Id N) N 1)
def I8(N:Nat)(a:(List (AI×Bool)))(b:ByteArray)(d:ByteArray):Option (Bool×(List (AI×Bool))):=
 (K7 N b).bind λc=>
 cond ((!c)||((KT (λk:AI=>Value.agg (AI.v k).toArray) a (⟨d,b⟩:AI)).getD false)) (
 some (false,a)) (
 some (true,(Mj (λk:AI=>Value.agg (AI.v k).toArray) a (⟨d,b⟩:AI) true)))
def Le(N:Nat)(a:(List (AI×Bool)))(b:ByteArray)(c:ByteArray):Option (Bool×(List (AI×Bool))):=
 cond (b==(ByteArray.mk #[115,104,101,108,116,101,114])) (
 I8 N a c (ByteArray.mk #[116,111,119,110])) (
 I8 N a c b)
def Do(N:Nat)(c2_:(List (AI×Bool)))(c3_:Bool)(a:ByteArray)(b:ByteArray):Option ((List (AI×Bool))×Bool):=
 (Le N c2_ a b).bind λc=>
 some (c.2,(c.1&&c3_))
def EH(N:Nat)(a:AF)(d:Bool->((List (AI×Bool)))->Option Bool):Nat->Int->Bool->((List (AI×Bool)))->Option Bool
 |0,_,_,_=>none
 |k+1,c,g,i=>
 cond (decide (c<(↑a.A.length:Int))) (
 (ix a.A c).bind λj=>
 (Do N i g (ByteArray.mk #[112,108,97,99,101]) j.G).bind λb=>
 EH N a d k (BO (c+1)) b.2 b.1) (
 d g i)
def EG(N:Nat)(a:AF)(i:Bool->((List (AI×Bool)))->Option Bool):Nat->Int->Bool->((List (AI×Bool)))->Option Bool
 |0,_,_,_=>none
 |k+1,b,c,d=>
 cond (decide (b<(↑a.E.length:Int))) (
 (ix a.E b).bind λj=>
 (Do N d c (ByteArray.mk #[108,105,110,107]) j.G).bind λg=>
 EG N a i k (BO (b+1)) g.2 g.1) (
 i c d)
def EF(N:Nat)(a:AF)(i:Bool->((List (AI×Bool)))->Option Bool):Nat->Int->Bool->((List (AI×Bool)))->Option Bool
 |0,_,_,_=>none
 |k+1,b,c,d=>
 cond (decide (b<(↑a.Af.length:Int))) (
 (ix a.Af b).bind λj=>
 (Do N d c (ByteArray.mk #[116,111,119,110]) j.G).bind λg=>
 EF N a i k (BO (b+1)) g.2 g.1) (
 i c d)
def EE(N:Nat)(a:AF)(i:Bool->((List (AI×Bool)))->Option Bool):Nat->Int->Bool->((List (AI×Bool)))->Option Bool
 |0,_,_,_=>none
 |k+1,b,c,d=>
 cond (decide (b<(↑a.Ak.length:Int))) (
 (ix a.Ak b).bind λj=>
 (Do N d c (ByteArray.mk #[115,104,101,108,116,101,114]) j.G).bind λg=>
 EE N a i k (BO (b+1)) g.2 g.1) (
 i c d)
def D0(N:Nat)(a:AF)(c:Bool->((List (AI×Bool)))->Option Bool):Nat->Int->Bool->((List (AI×Bool)))->Option Bool
 |0,_,_,_=>none
 |k+1,b,d,g=>
 cond (decide (b<(↑a.Ah.length:Int))) (
 (ix a.Ah b).bind λj=>
 (Do N g d (ByteArray.mk #[103,97,117,103,101]) j.G).bind λi=>
 D0 N a c k (BO (b+1)) i.2 i.1) (
 c d g)
def Dz(N:Nat)(a:AF)(c:Bool->Option Bool):Nat->Int->Bool->((List (AI×Bool)))->Option Bool
 |0,_,_,_=>none
 |k+1,b,d,i=>
 cond (decide (b<(↑a.Ai.length:Int))) (
 (ix a.Ai b).bind λj=>
 (Do N i d (ByteArray.mk #[114,111,97,100]) j.G).bind λg=>
 Dz N a c k (BO (b+1)) g.2 g.1) (
 c d)
def FW(N:Nat)(a:Bool):Option Bool:=
 some a
def FX(N:Nat)(a:AF)(b:Bool)(c:(List (AI×Bool))):Option Bool:=
 Dz N a (FW N) N 0 b c
def Fv(N:Nat)(a:AF)(b:Bool)(c:(List (AI×Bool))):Option Bool:=
 D0 N a (FX N a) N 0 b c
def Fw(N:Nat)(a:AF)(b:Bool)(c:(List (AI×Bool))):Option Bool:=
 EE N a (Fv N a) N 0 b c
def Fx(N:Nat)(a:AF)(b:Bool)(c:(List (AI×Bool))):Option Bool:=
 EF N a (Fw N a) N 0 b c
def Fy(N:Nat)(a:AF)(b:Bool)(c:(List (AI×Bool))):Option Bool:=
 EG N a (Fx N a) N 0 b c
def F5(N:Nat)(a:AF)(b:Bool)(c:(List (AI×Bool))):Option Bool:=
 EH N a (Fy N a) N 0 b c
def EI(N:Nat)(a:AF)(c:Bool->((List (AI×Bool)))->Option Bool):Nat->Int->Bool->((List (AI×Bool)))->Option Bool
 |0,_,_,_=>none
 |k+1,b,d,g=>
 cond (decide (b<(↑a.I.length:Int))) (
 (ix a.I b).bind λj=>
 (Do N g d (ByteArray.mk #[111,119,110,101,114]) j).bind λi=>
 EI N a c k (BO (b+1)) i.2 i.1) (
 c d g)
def Kd(N:Nat)(a:AF):Option Bool:=
 EI N a (F5 N a) N 0 true ([]:(List (AI×Bool)))
def IG(N:Nat):Option Bool:=
 some true
def Fm(N:Nat)(a:(List B3))(d:Option Bool):Nat->Int->Option Bool
 |0,_=>none
 |l+1,c=>
 cond (decide (c<(↑a.length:Int))) (
 (ix a c).bind λb=>
 cond ((((decide (b.R<0))||(decide (1125899906842624<b.R)))||(decide (b.X<0)))||(decide (1125899906842624<b.X))) (
 some false) (
 (cond (decide (0<c)) ((ix a (BO (c-1))).bind λg=>
 (cond (decide (b.R<=g.R)) (some true) ((ix a (BO (c-1))).bind λi=>
 some (decide (b.X<i.X)))).bind λj=>
 some j) (some false)).bind λk=>
 cond k (
 some false) (
 Fm N a d l (BO (c+1))))) (
 d)
def Fo(N:Nat)(a:(List B3)):Option Bool:=
 cond ((decide ((↑a.length:Int)<1))||(decide (32<(↑a.length:Int)))) (
 some false) (
 Fm N a (IG N) N 0)
def II(N:Nat)(a:Int)(b:Int):Option Bool:=
 (Cz N a).bind λc=>
 (cond c ((Cz N b).bind λd=>
 some d) (some false)).bind λg=>
 some (g&&((decide (b≠0))||(decide (a=0))))
def GQ(N:Nat)(b:Int)(a:Int):Option Bool:=
 (DI N b 0 (BO (a-1))).bind λc=>
 some c
def KO(N:Nat)(c:AF)(b:Int)(a:Int):Option Bool:=
 (cond (decide (a=(-1))) (some true) ((GQ N a (↑c.A.length:Int)).bind λd=>
 some (d&&(decide (a≠b))))).bind λg=>
 some g
def CT(N:Nat)(a:Int):Option Bool:=
 some (decide (a<=1125899906842624))
def DN(N:Nat)(d:Ce)(g:Int->Option Bool):Nat->Int->Int->Option Bool
 |0,_,_=>none
 |j+1,b,a=>
 cond (decide (a<(↑d.An.length:Int))) (
 (ix d.An a).bind λc=>
 (Cz N c).bind λi=>
 cond (!i) (
 some false) (
 DN N d g j (BO (b+c)) (BO (a+1)))) (
 g b)
def Cc(N:Nat)(c:AF)(g:Ce)(d:Int)(i:Int->Option Bool):Nat->Int->Int->Option Bool
 |0,_,_=>none
 |m+1,j,b=>
 cond (decide (b<(↑g.U.length:Int))) (
 (ix g.U b).bind λa=>
 (cond ((decide (a.Bg<=j))||(decide (c.L<=a.Bg))) (some true) ((Cz N a.Bp).bind λk=>
 some (!k))).bind λl=>
 cond l (
 some false) (
 Cc N c g d i m a.Bg (BO (b+1)))) (
 i d)
def FV(N:Nat)(a:AF)(c:Ce)(d:Int->Option Bool)(b:Int):Option Bool:=
 Cc N a c b d N (-1) 0
def C1(N:Nat)(a:Int)(b:Int->Int->Option Bool)(c:Int):Option Bool:=
 b c (BO (a+1))
def B8(N:Nat)(b:AF)(d:Int->Option Bool):Nat->Int->Int->Option Bool
 |0,_,_=>none
 |y+1,g,c=>
 cond (decide (c<(↑b.A.length:Int))) (
 (ix b.A c).bind λa=>
 (DI N a.H 0 3).bind λj=>
 (cond (!j) (some true) ((DI N a.At 0 2).bind λk=>
 some (!k))).bind λl=>
 (cond l (some true) ((DI N a.S 0 240).bind λm=>
 some (!m))).bind λn=>
 (cond n (some true) ((Cz N a.Au).bind λo=>
 some (!o))).bind λp=>
 (cond p (some true) ((Cz N a.Bh).bind λq=>
 some (!q))).bind λs=>
 (cond s (some true) ((Fo N a.Bk).bind λt=>
 some (!t))).bind λu=>
 (cond (u||(decide ((↑a.An.length:Int)≠(↑b.I.length:Int)))) (some true) ((II N a.Y a.T).bind λv=>
 some (!v))).bind λw=>
 (cond w (some true) ((KO N b c a.Ao).bind λi=>
 some (!i))).bind λx=>
 cond x (
 some false) (
 DN N a (FV N b a (C1 N c (B8 N b d y))) N g 0)) (
 d g)
def Hw(N:Nat)(a:AF):Option Bool:=
 B8 N a (CT N) N 0 0
def KI(N:Nat)(a:Int):Option Int:=
 some a
def HV(N:Nat)(b:(Int->Option Bool))(d:Int->Option Int):Nat->Int->Int->Option Int
 |0,_,_=>none
 |i+1,a,c=>
 cond (decide (a<c)) (
 (b (BO (F6 .u64 (IntKind.wrap .u64 (BO (a+c))) 1))).bind λg=>
 cond (!g) (
 HV N b d i (BO ((BO (F6 .u64 (IntKind.wrap .u64 (BO (a+c))) 1))+1)) c) (
 HV N b d i a (BO (F6 .u64 (IntKind.wrap .u64 (BO (a+c))) 1)))) (
 d a)
def M4(N:Nat)(a:Int)(b:(Int->Option Bool)):Option Int:=
 HV N b (KI N) N 0 a
def Jq(N:Nat)(c1_:(List B3))(c2_:Int)(a:Int):Option Bool:=
 (ix c1_ a).bind λb=>
 some (decide (c2_<b.R))
def Ib(N:Nat)(a:Int)(b:Int):Option (Int×Int):=
 some ((IntKind.wrap .u64 ((IntKind.wrap .u64 ((IntKind.wrap .u64 ((F6 .u64 a 32)*(F6 .u64 b 32)))+(F6 .u64 (IntKind.wrap .u64 ((IntKind.wrap .u64 ((F6 .u64 a 32)*(Jz .and .u64 b 4294967295)))+(F6 .u64 (IntKind.wrap .u64 ((Jz .and .u64 a 4294967295)*(Jz .and .u64 b 4294967295))) 32))) 32)))+(F6 .u64 (IntKind.wrap .u64 ((Jz .and .u64 (IntKind.wrap .u64 ((IntKind.wrap .u64 ((F6 .u64 a 32)*(Jz .and .u64 b 4294967295)))+(F6 .u64 (IntKind.wrap .u64 ((Jz .and .u64 a 4294967295)*(Jz .and .u64 b 4294967295))) 32))) 4294967295)+(IntKind.wrap .u64 ((Jz .and .u64 a 4294967295)*(F6 .u64 b 32))))) 32))),(IntKind.wrap .u64 (a*b)))
def HY(N:Nat)(a:Int)(b:Int):Option Int:=
 (bE OX (IntKind.wrap .u8 a)).bind λc=>
 some (BO (b+(BO c)))
def HZ(N:Nat)(a:Int)(b:Int):Option Int:=
 cond (decide (256<=a)) (
 HY N (F6 .u64 a 8) (BO (b+8))) (
 HY N a b)
def Ha(N:Nat)(a:Int)(b:Int):Option Int:=
 cond (decide (65536<=a)) (
 HZ N (F6 .u64 a 16) (BO (b+16))) (
 HZ N a b)
def Jw(N:Nat)(a:Int):Option Int:=
 cond (decide (4294967296<=a)) (
 Ha N (F6 .u64 a 32) 32) (
 Ha N a 0)
def GN(N:Nat)(a:Int):Option Int:=
 (Jw N a).bind λb=>
 some (BO (64-b))
def EV(N:Nat)(b:Int)(a:Int)(d:Nat)(j:Nat)(g:Int->Option (Int×Int)):Nat->Int->Int->Option (Int×Int)
 |0,_,_=>none
 |k+1,i,c=>
 cond ((decide (4294967296<=c))||(decide ((IntKind.wrap .u64 ((IntKind.wrap .u64 (4294967296*i))+(Jz .and .u64 (Ej .u64 b j) 4294967295)))<(IntKind.wrap .u64 (c*(Jz .and .u64 (Ej .u64 a d) 4294967295)))))) (
 cond (decide (4294967296<=(IntKind.wrap .u64 (i+(F6 .u64 (Ej .u64 a d) 32))))) (
 g (IntKind.wrap .u64 (c-1))) (
 EV N b a d j g k (IntKind.wrap .u64 (i+(F6 .u64 (Ej .u64 a d) 32))) (IntKind.wrap .u64 (c-1)))) (
 g c)
def GO(N:Nat)(c:Int)(a:Int)(b:Int)(n:Int)(d:Nat)(k:Nat)(l:Nat)(g:Nat)(i:Int)(j:Int):Option (Int×Int):=
 (Rj (IntKind.wrap .u64 n)).bind λm=>
 some ((IntKind.wrap .u64 ((IntKind.wrap .u64 (i*4294967296))+j)),(F6 .u64 (IntKind.wrap .u64 ((IntKind.wrap .u64 ((IntKind.wrap .u64 ((IntKind.wrap .u64 ((IntKind.wrap .u64 ((IntKind.wrap .u64 ((Jz .or .u64 (Ej .u64 c k) (F6 .u64 a l))*4294967296))+(F6 .u64 (Ej .u64 a g) 32)))-(IntKind.wrap .u64 (i*(Ej .u64 b d)))))*4294967296))+(Jz .and .u64 (Ej .u64 a g) 4294967295)))-(IntKind.wrap .u64 (j*(Ej .u64 b d))))) m))
def EW(N:Nat)(c:Int)(a:Int)(b:Int)(m:Int)(d:Nat)(i:Nat)(j:Nat)(g:Nat)(k:Int):Option (Int×Int):=
 (Tv .u64 (IntKind.wrap .u64 ((IntKind.wrap .u64 ((IntKind.wrap .u64 ((Jz .or .u64 (Ej .u64 c i) (F6 .u64 a j))*4294967296))+(F6 .u64 (Ej .u64 a g) 32)))-(IntKind.wrap .u64 (k*(Ej .u64 b d))))) (F6 .u64 (Ej .u64 b d) 32)).bind λl=>
 EV N a b d g (GO N c a b m d i j g k) N (IntKind.wrap .u64 ((IntKind.wrap .u64 ((IntKind.wrap .u64 ((IntKind.wrap .u64 ((Jz .or .u64 (Ej .u64 c i) (F6 .u64 a j))*4294967296))+(F6 .u64 (Ej .u64 a g) 32)))-(IntKind.wrap .u64 (k*(Ej .u64 b d)))))-(IntKind.wrap .u64 (l*(F6 .u64 (Ej .u64 b d) 32))))) l
def D5(N:Nat)(b:Int)(a:Int)(d:Nat)(j:Nat)(g:Int->Option (Int×Int)):Nat->Int->Int->Option (Int×Int)
 |0,_,_=>none
 |k+1,c,i=>
 cond ((decide (4294967296<=c))||(decide ((IntKind.wrap .u64 ((IntKind.wrap .u64 (4294967296*i))+(F6 .u64 (Ej .u64 b j) 32)))<(IntKind.wrap .u64 (c*(Jz .and .u64 (Ej .u64 a d) 4294967295)))))) (
 cond (decide (4294967296<=(IntKind.wrap .u64 (i+(F6 .u64 (Ej .u64 a d) 32))))) (
 g (IntKind.wrap .u64 (c-1))) (
 D5 N b a d j g k (IntKind.wrap .u64 (c-1)) (IntKind.wrap .u64 (i+(F6 .u64 (Ej .u64 a d) 32))))) (
 g c)
def Gv(N:Nat)(c:Int)(b:Int)(a:Int):Option (Int×Int):=
 cond (decide (a=0)) (
 none) (
 cond (decide (a<=c)) (
 none) (
 cond (decide (c=0)) (
 (Tv .u64 b a).bind λm=>
 (Wb b a).bind λn=>
 some (m,n)) (
 (GN N a).bind λj=>
 (Rj (IntKind.wrap .u64 j)).bind λd=>
 (Rj (IntKind.wrap .u64 j)).bind λg=>
 (Rj (IntKind.wrap .u64 (64-(IntKind.wrap .u64 j)))).bind λi=>
 (Rj (IntKind.wrap .u64 j)).bind λk=>
 (Tv .u64 (Jz .or .u64 (Ej .u64 c g) (F6 .u64 b i)) (F6 .u64 (Ej .u64 a d) 32)).bind λl=>
 D5 N b a d k (EW N c b a j d g i k) N l (IntKind.wrap .u64 ((Jz .or .u64 (Ej .u64 c g) (F6 .u64 b i))-(IntKind.wrap .u64 (l*(F6 .u64 (Ej .u64 a d) 32))))))))
def G8(N:Nat)(c:Int)(b:Int)(a:Int):Option (Int×Int×Bool):=
 cond ((((((decide (c<0))||(decide (1125899906842624<c)))||(decide (b<0)))||(decide (1125899906842624<b)))||(decide (a<1)))||(decide (1125899906842624<a))) (
 some (0,0,false)) (
 (Ib N (IntKind.wrap .u64 c) (IntKind.wrap .u64 b)).bind λg=>
 cond (decide ((IntKind.wrap .u64 a)<=g.1)) (
 some (0,0,false)) (
 (Gv N g.1 g.2 (IntKind.wrap .u64 a)).bind λd=>
 cond (decide (1125899906842624<d.1)) (
 some (0,0,false)) (
 some ((BO d.1),(BO d.2),true))))
def J9(N:Nat)(a:(List B3))(d:Int):Option (Int×Bool):=
 (M4 N (↑a.length:Int) (λx=>Jq N a d x)).bind λb=>
 cond (decide (b=0)) (
 (ix a 0).bind λi=>
 some (i.X,false)) (
 (ix a (BO (b-1))).bind λc=>
 cond (decide (b=(↑a.length:Int))) (
 some (c.X,false)) (
 (ix a b).bind λj=>
 (ix a b).bind λk=>
 (G8 N (BO (d-c.R)) (BO (j.X-c.X)) (BO (k.R-c.R))).bind λg=>
 some ((BO (c.X+g.1)),(decide (0<g.2.1)))))
def Hc(N:Nat)(b:(List B3))(a:(List B3))(i:Option Bool):Nat->Int->Option Bool
 |0,_=>none
 |j+1,c=>
 cond (decide (c<(↑a.length:Int))) (
 (ix a c).bind λd=>
 (J9 N b d.R).bind λg=>
 cond ((decide (d.X<g.1))||((decide (g.1=d.X))&&g.2)) (
 some false) (
 Hc N b a i j (BO (c+1)))) (
 i)
def I7(N:Nat):Option Bool:=
 some true
def Hf(N:Nat)(a:(List B3))(b:(List B3)):Option Bool:=
 Hc N a b (I7 N) N 0
def He(N:Nat)(a:(List B3))(b:(List B3))(d:Option Bool):Nat->Int->Option Bool
 |0,_=>none
 |j+1,c=>
 cond (decide (c<(↑a.length:Int))) (
 (ix a c).bind λg=>
 (J9 N b g.R).bind λi=>
 cond (decide (i.1<g.X)) (
 some false) (
 He N a b d j (BO (c+1)))) (
 d)
def I2(N:Nat)(a:(List B3))(b:(List B3)):Option Bool:=
 (Fo N a).bind λc=>
 (cond (!c) (some true) ((Fo N b).bind λd=>
 some (!d))).bind λg=>
 cond g (
 some false) (
 He N a b (Hf N a b) N 0)
def Ee(N:Nat)(a:BG)(b:Bool):Option Bool:=
 cond b (
 (Cz N a.Bc).bind λc=>
 (cond c ((Cz N a.Y).bind λd=>
 some d) (some false)).bind λg=>
 (cond g ((DI N a.T 1 1125899906842624).bind λi=>
 some i) (some false)).bind λj=>
 some j) (
 cond (decide (a.H=2)) (
 (Cz N a.Y).bind λk=>
 (cond k ((DI N a.W 1 64).bind λl=>
 some l) (some false)).bind λm=>
 (cond m ((DI N a.Ag 0 a.W).bind λn=>
 some n) (some false)).bind λo=>
 some o) (
 cond (decide (a.H=3)) (
 (Cz N a.Y).bind λp=>
 (cond p ((DI N a.T 1 1125899906842624).bind λq=>
 some q) (some false)).bind λs=>
 (cond s ((Cz N a.Az).bind λt=>
 some t) (some false)).bind λu=>
 (cond u ((Cz N a.Ba).bind λv=>
 some v) (some false)).bind λw=>
 some (w&&(decide (a.Ba<a.Az)))) (
 (Cz N a.Y).bind λx=>
 (cond x ((DI N a.T 1 1125899906842624).bind λy=>
 some y) (some false)).bind λz=>
 (cond z ((II N a.Aq a.Al).bind λA=>
 some A) (some false)).bind λB=>
 some (B&&(decide (a.C≠(-1)))))))
def Gp(N:Nat)(a:BG):Option Bool:=
 cond (decide (a.H=0)) (
 (Fo N a.As).bind λb=>
 (cond b ((Fo N a.Ae.Aw).bind λc=>
 some c) (some false)).bind λd=>
 (cond d ((Fo N a.Ae.Ax).bind λg=>
 some g) (some false)).bind λi=>
 (cond i ((I2 N a.Ae.Aw a.As).bind λj=>
 some j) (some false)).bind λk=>
 (cond k ((I2 N a.As a.Ae.Ax).bind λl=>
 some l) (some false)).bind λm=>
 (cond m ((DI N a.W 0 64).bind λn=>
 some n) (some false)).bind λo=>
 (cond o ((DI N a.Ag 0 a.W).bind λp=>
 some p) (some false)).bind λq=>
 (cond q ((Cz N a.Bb).bind λs=>
 some s) (some false)).bind λt=>
 (cond t ((II N a.Aq a.Al).bind λu=>
 some u) (some false)).bind λv=>
 some (v&&((decide (a.C≠(-1)))||(decide (a.Al=0))))) (
 cond (decide (a.H=1)) (
 Ee N a (decide (a.H=1))) (
 Ee N a (decide (a.H=5))))
def Fs(N:Nat)(a:BG):Option Bool:=
 cond ((!(decide (a.H=0)))&&((((decide (0<(↑a.As.length:Int)))||(decide (0<(↑a.Ae.Aw.length:Int))))||(decide (0<(↑a.Ae.Ax.length:Int))))||(decide (a.Bb≠0)))) (
 some false) (
 cond (((!(decide (a.H=0)))&&(decide (a.H≠2)))&&((decide (a.W≠0))||(decide (a.Ag≠0)))) (
 some false) (
 cond (((decide (a.H≠1))&&(decide (a.H≠5)))&&(decide (a.Bc≠0))) (
 some false) (
 cond (((decide (a.H=0))&&(decide (a.Y≠0)))||(((decide (a.H=0))||(decide (a.H=2)))&&(decide (a.T≠0)))) (
 some false) (
 cond ((decide (a.H≠3))&&((decide (a.Az≠0))||(decide (a.Ba≠0)))) (
 some false) (
 some (((decide (a.H=0))||(decide (a.H=4)))||((decide (a.Aq=0))&&(decide (a.Al=0)))))))))
def Dv(N:Nat):Option Bool:=
 some true
def CY(N:Nat)(a:AF)(d:Option Bool):Nat->Int->Option Bool
 |0,_=>none
 |t+1,c=>
 cond (decide (c<(↑a.E.length:Int))) (
 (ix a.E c).bind λb=>
 (DI N b.H 0 5).bind λg=>
 (cond (!g) (some true) ((GQ N b.J (↑a.A.length:Int)).bind λi=>
 some (!i))).bind λj=>
 (cond j (some true) ((KO N a b.J b.C).bind λk=>
 some (!k))).bind λl=>
 (cond l (some true) ((DI N b.S 0 240).bind λm=>
 some (!m))).bind λn=>
 (cond n (some true) ((Gp N b).bind λo=>
 some (!o))).bind λp=>
 (cond p (some true) ((Fs N b).bind λq=>
 some (!q))).bind λs=>
 cond s (
 some false) (
 CY N a d t (BO (c+1)))) (
 d)
def FY(N:Nat)(a:AF):Option Bool:=
 CY N a (Dv N) N 0
def LM(N:Nat)(c:AF)(a:Int)(b:Int):Option Bool:=
 cond (decide (b=(-1))) (
 some (decide (a=2))) (
 (ix c.A b).bind λd=>
 some ((decide (d.At=a))||(decide (d.At=(BO (a+1))))))
def EJ(N:Nat)(a:AF)(g:Option Bool):Nat->Int->Option Bool
 |0,_=>none
 |m+1,d=>
 cond (decide (d<(↑a.E.length:Int))) (
 (ix a.E d).bind λb=>
 (ix a.A b.J).bind λc=>
 (LM N a c.At b.C).bind λi=>
 (cond (!i) (some true) ((cond (decide (b.H=4)) ((ix a.A b.C).bind λj=>
 some (decide (j.At≠c.At))) (some false)).bind λk=>
 some k)).bind λl=>
 cond l (
 some false) (
 EJ N a g m (BO (d+1)))) (
 g)
def GE(N:Nat):Option Bool:=
 some true
def EL(N:Nat)(a:AF):Option Bool:=
 EJ N a (GE N) N 0
def EK(N:Nat)(a:AF)(c:Option Bool):Nat->Int->Option Bool
 |0,_=>none
 |i+1,b=>
 cond (decide (b<(↑a.A.length:Int))) (
 (ix a.A b).bind λd=>
 (LM N a d.At d.Ao).bind λg=>
 cond (!g) (
 some false) (
 EK N a c i (BO (b+1)))) (
 c)
def IU(N:Nat)(a:AF):Option Bool:=
 EK N a (EL N a) N 0
def LK(N:Nat)(a:Int):Option Int:=
 some (BO a)
def G9(N:Nat)(b:Int)(a:Int):Option Int:=
 cond (decide (a=0)) (
 some 0) (
 cond (decide (a<b)) (
 some 1099511627777) (
 (Ib N (IntKind.wrap .u64 b) 1099511627776).bind λd=>
 (Gv N d.1 d.2 (IntKind.wrap .u64 a)).bind λc=>
 cond (decide (c.2≠0)) (
 LK N (IntKind.wrap .u64 (c.1+1))) (
 LK N c.1)))
def E5(N:Nat)(a:Int):Option Int:=
 some a
def Fq(N:Nat)(a:(List B3))(c:Int->Option Int):Nat->Int->Int->Option Int
 |0,_,_=>none
 |m+1,d,b=>
 cond (decide (b<(↑a.length:Int))) (
 (ix a b).bind λg=>
 (ix a (BO (b-1))).bind λi=>
 (ix a b).bind λj=>
 (ix a (BO (b-1))).bind λk=>
 (G9 N (BO (g.X-i.X)) (BO (j.R-k.R))).bind λl=>
 Fq N a c m (max d l) (BO (b+1))) (
 c d)
def Gn(N:Nat)(a:Int)(b:Int->Int->Option Int)(c:Int):Option Int:=
 b c (BO (a+1))
def Dx(N:Nat)(a:(List (List B3)))(c:Int->Option Int):Nat->Int->Int->Option Int
 |0,_,_=>none
 |i+1,g,b=>
 cond (decide (b<(↑a.length:Int))) (
 (ix a b).bind λd=>
 Fq N d (Gn N b (Dx N a c i)) N g 1) (
 c g)
def KP(N:Nat)(a:(List (List B3))):Option Int:=
 Dx N a (E5 N) N 0 0
def C0(N:Nat)(b:Int)(c:Int->xq->Option Bool)(a:xq):Option Bool:=
 c (BO (b+1)) a
def Eb(N:Nat)(b:xq)(a:BG)(g:xq->Option Bool)(i:Bool):Option Bool:=
 cond i (
 (ix b a.J).bind λn=>
 (ix b a.J).bind λj=>
 (G9 N a.Y a.T).bind λk=>
 (ix b a.J).bind λo=>
 (ix b a.J).bind λp=>
 g (upd b a.J (BO (j+k)))) (
 cond (decide (a.H=4)) (
 (ix b a.J).bind λq=>
 (ix b a.J).bind λc=>
 (G9 N a.Y a.T).bind λd=>
 (ix b a.J).bind λs=>
 (ix b a.J).bind λt=>
 (ix (upd b a.J (BO (c+(BO (2*d))))) a.C).bind λu=>
 (ix (upd b a.J (BO (c+(BO (2*d))))) a.C).bind λl=>
 (G9 N a.Aq a.Al).bind λm=>
 (ix (upd b a.J (BO (c+(BO (2*d))))) a.C).bind λv=>
 (ix (upd b a.J (BO (c+(BO (2*d))))) a.C).bind λw=>
 g (upd (upd b a.J (BO (c+(BO (2*d))))) a.C (BO (l+(BO (2*m)))))) (
 g b))
def Ir(N:Nat)(b:Bool->Option Bool)(a:Bool):Option Bool:=
 b a
def B7(N:Nat)(c:AF)(j:xq->Option Bool):Nat->Int->xq->Option Bool
 |0,_,_=>none
 |k+1,i,b=>
 cond (decide (i<(↑c.E.length:Int))) (
 (ix c.E i).bind λa=>
 cond (decide (a.H=0)) (
 (ix b a.J).bind λn=>
 (ix b a.J).bind λd=>
 (KP N ([a.As,a.Ae.Aw,a.Ae.Ax]:List (List B3))).bind λg=>
 (ix b a.J).bind λo=>
 (ix b a.J).bind λp=>
 cond (decide (a.C≠(-1))) (
 (ix (upd b a.J (BO (d+g))) a.C).bind λq=>
 (ix (upd b a.J (BO (d+g))) a.C).bind λl=>
 (G9 N a.Aq a.Al).bind λm=>
 (ix (upd b a.J (BO (d+g))) a.C).bind λs=>
 (ix (upd b a.J (BO (d+g))) a.C).bind λt=>
 C0 N i (B7 N c j k) (upd (upd b a.J (BO (d+g))) a.C (BO (l+m)))) (
 C0 N i (B7 N c j k) (upd b a.J (BO (d+g))))) (
 cond (decide (a.H=1)) (
 Eb N b a (C0 N i (B7 N c j k)) (decide (a.H=1))) (
 cond (decide (a.H=5)) (
 Ir N (Eb N b a (C0 N i (B7 N c j k))) (decide (a.H=5))) (
 Ir N (Eb N b a (C0 N i (B7 N c j k))) (decide (a.H=3)))))) (
 j b)
def EZ(N:Nat)(b:xq)(c:Option Bool):Nat->Int->Option Bool
 |0,_=>none
 |i+1,a=>
 cond (decide (a<(↑b.length:Int))) (
 (ix b a).bind λg=>
 (ix b a).bind λd=>
 cond (decide (1099511627776<d)) (
 some false) (
 EZ N b c i (BO (a+1)))) (
 c)
def Ge(N:Nat):Option Bool:=
 some true
def DM(N:Nat)(a:xq):Option Bool:=
 EZ N a (Ge N) N 0
def Ec(N:Nat)(a:AF)(b:xq):Option Bool:=
 B7 N a (DM N) N 0 b
def Ea(N:Nat)(b:AF)(d:xq->Option Bool):Nat->Int->xq->Option Bool
 |0,_,_=>none
 |j+1,a,c=>
 cond (decide (a<(↑b.A.length:Int))) (
 (ix b.A a).bind λg=>
 (G9 N g.Y g.T).bind λi=>
 (ix c a).bind λk=>
 (ix c a).bind λl=>
 Ea N b d j (BO (a+1)) (upd c a i)) (
 d c)
def Im(N:Nat)(a:AF):Option Bool:=
 chk (ME (↑a.A.length:Int) (↑a.A.length:Int) 8) <|
 Ea N a (Ec N a) N 0 (List.replicate ((↑a.A.length:Int):Int).toNat (0:Int))
def Es(N:Nat)(a:AF)(c:Option Bool):Nat->Int->Option Bool
 |0,_=>none
 |i+1,b=>
 cond (decide (b<(↑a.Ak.length:Int))) (
 (ix a.Ak b).bind λd=>
 (DI N d.Aj 0 1073741824).bind λg=>
 cond (!g) (
 some false) (
 Es N a c i (BO (b+1)))) (
 c)
def G2(N:Nat):Option Bool:=
 some true
def Eu(N:Nat)(a:AF):Option Bool:=
 Es N a (G2 N) N 0
def Et(N:Nat)(a:AF)(d:Option Bool):Nat->Int->Option Bool
 |0,_=>none
 |t+1,c=>
 cond (decide (c<(↑a.Af.length:Int))) (
 (ix a.Af c).bind λb=>
 (GQ N b.Ap (↑a.A.length:Int)).bind λg=>
 (cond (!g) (some true) ((Cz N b.Bq).bind λi=>
 some (!i))).bind λj=>
 (cond j (some true) ((DI N b.Bo 0 24).bind λk=>
 some (!k))).bind λl=>
 (cond l (some true) ((DI N b.Bv 0 1073741824).bind λm=>
 some (!m))).bind λn=>
 (cond n (some true) ((Cz N b.Br).bind λo=>
 some (!o))).bind λp=>
 (cond p (some true) ((DI N b.Bn 0 128).bind λq=>
 some (!q))).bind λs=>
 cond s (
 some false) (
 Et N a d t (BO (c+1)))) (
 d)
def JQ(N:Nat)(a:AF):Option Bool:=
 Et N a (Eu N a) N 0
def Gf(N:Nat):Option Bool:=
 some true
def Ed(N:Nat)(a:AF)(d:Option Bool):Nat->Int->Option Bool
 |0,_=>none
 |o+1,c=>
 cond (decide (c<(↑a.Ah.length:Int))) (
 (ix a.Ah c).bind λb=>
 (DI N b.H 0 2).bind λg=>
 (cond (!g) (some true) ((DI N b.M 0 1099511627776).bind λi=>
 some (!i))).bind λj=>
 (cond j (some true) ((DI N b.Bs 0 1440).bind λk=>
 some (!k))).bind λl=>
 cond l (
 some false) (
 (ix ([(↑a.A.length:Int),a.L,(↑a.E.length:Int)]:xq) b.H).bind λm=>
 (GQ N b.Aa m).bind λn=>
 cond (!n) (
 some false) (
 Ed N a d o (BO (c+1))))) (
 d)
def In(N:Nat)(a:AF):Option Bool:=
 Ed N a (Gf N) N 0
def G3(N:Nat):Option Bool:=
 some true
def Ev(N:Nat)(a:AF)(d:Option Bool):Nat->Int->Option Bool
 |0,_=>none
 |u+1,c=>
 cond (decide (c<(↑a.Ai.length:Int))) (
 (ix a.Ai c).bind λb=>
 (GQ N b.J (↑a.Af.length:Int)).bind λg=>
 (cond (!g) (some true) ((GQ N b.C (BO ((↑a.Af.length:Int)+(↑a.Ak.length:Int)))).bind λi=>
 some (!i))).bind λj=>
 (cond (j||(decide (b.J=b.C))) (some true) ((DI N b.Bw 1 24).bind λk=>
 some (!k))).bind λl=>
 (cond l (some true) ((DI N b.Bx 0 1073741824).bind λm=>
 some (!m))).bind λn=>
 (cond n (some true) ((Cz N b.Bl).bind λo=>
 some (!o))).bind λp=>
 cond p (
 some false) (
 (cond ((decide (b.Bj=(-1)))&&(decide (b.Bl≠0))) (some true) ((cond (decide (b.Bj≠(-1))) ((GQ N b.Bj (↑a.A.length:Int)).bind λq=>
 some (!q)) (some false)).bind λs=>
 some s)).bind λt=>
 cond t (
 some false) (
 Ev N a d u (BO (c+1))))) (
 d)
def JR(N:Nat)(a:AF):Option Bool:=
 Ev N a (G3 N) N 0
def HA(N:Nat)(a:AF):Option Bool:=
 (Ic N a).bind λv=>
 (cond v ((Kd N a).bind λb=>
 some b) (some false)).bind λc=>
 (cond c ((Hw N a).bind λd=>
 some d) (some false)).bind λg=>
 (cond g ((FY N a).bind λi=>
 some i) (some false)).bind λj=>
 (cond j ((IU N a).bind λk=>
 some k) (some false)).bind λl=>
 (cond l ((Im N a).bind λm=>
 some m) (some false)).bind λn=>
 (cond n ((JQ N a).bind λo=>
 some o) (some false)).bind λp=>
 (cond p ((In N a).bind λq=>
 some q) (some false)).bind λs=>
 (cond s ((JR N a).bind λt=>
 some t) (some false)).bind λu=>
 some u
def H0(N:Nat):Option Bool:=
 some true
def Ff(N:Nat)(a:xq)(c:Option Bool):Nat->Int->Int->Option Bool
 |0,_,_=>none
 |i+1,g,d=>
 cond (decide (d<(↑a.length:Int))) (
 (ix a d).bind λb=>
 cond ((decide (b<0))||(decide ((BO (1125899906842624-g))<b))) (
 some false) (
 Ff N a c i (BO (g+b)) (BO (d+1)))) (
 c)
def Jv(N:Nat)(a:xq):Option Bool:=
 Ff N a (H0 N) N 0 0
def LH(N:Nat)(b:xq)(a:Int):Option Bool:=
 (cond (((decide (0<=a))&&(decide (a<=16)))&&(decide ((↑b.length:Int)=a))) ((Jv N b).bind λc=>
 some c) (some false)).bind λd=>
 some d
def Hb(N:Nat)(b:Int)(a:Int):Option Int:=
 cond ((decide (0<a))&&(decide ((BO (9223372036854775807-a))<b))) (
 some 9223372036854775807) (
 cond ((decide (a<0))&&(decide (b<(BO ((-9223372036854775808)-a))))) (
 some (-9223372036854775808)) (
 some (BO (b+a))))
def Jp(N:Nat)(a:Int):Option Int:=
 some a
def H1(N:Nat)(a:xq)(c:Int->Option Int):Nat->Int->Int->Option Int
 |0,_,_=>none
 |j+1,i,b=>
 cond (decide (b<(↑a.length:Int))) (
 (ix a b).bind λd=>
 (Hb N i d).bind λg=>
 H1 N a c j g (BO (b+1))) (
 c i)
def Dr(N:Nat)(a:xq):Option Int:=
 H1 N a (Jp N) N 0 0
def Hm(N:Nat)(b:Int)(a:Int):Option Bool:=
 some ((decide (0<=b))&&(decide (b<a)))
def HQ(N:Nat)(b:AF)(a:AH)(j:Int->Option (Int×Bool)):Nat->Int->Int->Option (Int×Bool)
 |0,_,_=>none
 |o+1,g,i=>
 cond (decide (i<(↑a.F.length:Int))) (
 (ix a.F i).bind λd=>
 (cond (decide (d.Av<a.B)) (some true) ((Hm N d.C (↑b.A.length:Int)).bind λk=>
 some (!k))).bind λl=>
 (cond l (some true) ((LH N d.N (↑b.I.length:Int)).bind λm=>
 some (!m))).bind λn=>
 cond n (
 some (0,false)) (
 (Dr N d.N).bind λc=>
 cond ((decide (c<=0))||(decide (1125899906842624<(BO (g+c))))) (
 some (0,false)) (
 HQ N b a j o (BO (g+c)) (BO (i+1))))) (
 j g)
def I6(N:Nat)(a:Int):Option (Int×Bool):=
 some (a,true)
def GT(N:Nat)(a:AF)(b:AH)(c:Int):Option (Int×Bool):=
 HQ N a b (I6 N) N c 0
def GS(N:Nat)(b:AF)(a:AH)(g:Int->Option (Int×Bool)):Nat->Int->Int->Option (Int×Bool)
 |0,_,_=>none
 |l+1,c,d=>
 cond (decide (d<(↑a.D.length:Int))) (
 (ix a.D d).bind λi=>
 (LH N i (↑b.I.length:Int)).bind λk=>
 cond (!k) (
 some (0,false)) (
 (Dr N i).bind λj=>
 cond (decide (1125899906842624<(BO (c+j)))) (
 some (0,false)) (
 GS N b a g l (BO (c+j)) (BO (d+1))))) (
 g c)
def Lb(N:Nat)(a:AF)(b:AH):Option (Int×Bool):=
 GS N a b (GT N a b) N 0 0
def IZ(N:Nat)(a:Int):Option (Int×Bool):=
 some (a,true)
def Gr(N:Nat)(b:xq)(a:Int)(g:Int->Option (Int×Bool)):Nat->Int->Int->Option (Int×Bool)
 |0,_,_=>none
 |j+1,i,c=>
 cond (decide (c<(↑b.length:Int))) (
 (ix b c).bind λd=>
 cond ((decide (d<0))||(decide ((BO (a-i))<d))) (
 some (0,false)) (
 Gr N b a g j (BO (i+d)) (BO (c+1)))) (
 g i)
def KF(N:Nat)(b:xq)(a:Int):Option (Int×Bool):=
 Gr N b a (IZ N) N 0 0
def HI(N:Nat)(d:AF)(g:AH)(i:Option Bool):Nat->Int->Option Bool
 |0,_=>none
 |j+1,b=>
 cond (decide (b<(↑d.E.length:Int))) (
 (ix d.E b).bind λc=>
 (ix g.Q b).bind λa=>
 cond ((((decide (a.Z<0))||(decide (c.W<a.Z)))||(decide (a.Aa<0)))||(decide (c.W<a.Aa))) (
 some false) (
 cond ((a.Am&&(decide (c.H≠5)))&&(decide (c.H≠3))) (
 some false) (
 HI N d g i j (BO (b+1))))) (
 i)
def HK(N:Nat)(d:AF)(a:AH):Option Bool:=
 (Lb N d a).bind λb=>
 cond (!b.2) (
 some false) (
 (KF N a.K 1152921504606846976).bind λc=>
 cond (!c.2) (
 some false) (
 (KF N a.O (BO ((BO (c.1+1125899906842624))-b.1))).bind λg=>
 some g.2))
def HL(N:Nat)(a:AF)(b:AH):Option Bool:=
 HI N a b (HK N a b) N 0
def HJ(N:Nat)(a:AF)(b:AH)(d:Option Bool):Nat->Int->Option Bool
 |0,_=>none
 |l+1,c=>
 cond (decide (c<(↑a.A.length:Int))) (
 (ix a.A c).bind λk=>
 (ix b.P c).bind λg=>
 (cond (decide (g<0)) (some true) ((ix b.P c).bind λi=>
 some (decide ((max 0 (BO (k.T-1)))<i)))).bind λj=>
 cond j (
 some false) (
 HJ N a b d l (BO (c+1)))) (
 d)
def LE(N:Nat)(b:AF)(a:AH):Option Bool:=
 cond (((((((decide (a.B<0))||(decide (16777216<a.B)))||(decide ((↑a.D.length:Int)≠(↑b.A.length:Int))))||(decide ((↑a.P.length:Int)≠(↑b.A.length:Int))))||(decide ((↑a.Q.length:Int)≠(↑b.E.length:Int))))||(decide ((↑a.K.length:Int)≠(↑b.I.length:Int))))||(decide ((↑a.O.length:Int)≠(↑b.I.length:Int)))) (
 some false) (
 HJ N b a (HL N b a) N 0)
def Gk(N:Nat)(a:(List xq)):Option (List xq):=
 chk (HN (([]:List xq).length+a.length) 24) <|
 some (([]:List xq)++a)
def Cw(N:Nat)(a:(List AY)):Option (List AY):=
 chk (HN (([]:List AY).length+a.length) 40) <|
 some (([]:List AY)++a)
def By(N:Nat)(a:(List A8)):Option (List A8):=
 chk (HN (([]:List A8).length+a.length) 24) <|
 some (([]:List A8)++a)
def EA(N:Nat)(c:(List AY))(d:(List AY)->Option AH):Nat->Int->(List AY)->Option AH
 |0,_,_=>none
 |m+1,a,b=>
 cond (decide (a<(↑c.length:Int))) (
 (ix b a).bind λk=>
 (ix b a).bind λg=>
 (BR N g.N).bind λi=>
 (ix b a).bind λl=>
 (ix b a).bind λj=>
 EA N c d m (BO (a+1)) (upd b a ({ j with N:=i}))) (
 d b)
def Eo(N:Nat)(a:AH)(j:List xq)(b:List AY):Option AH:=
 (BR N a.P).bind λc=>
 (By N a.Q).bind λd=>
 (BR N a.K).bind λg=>
 (BR N a.O).bind λi=>
 some (⟨a.B,j,c,b,d,g,i⟩:AH)
def Ep(N:Nat)(a:AH)(c:List xq):Option AH:=
 (Cw N a.F).bind λb=>
 EA N b (Eo N a c) N 0 b
def EB(N:Nat)(c:(List xq))(d:(List xq)->Option AH):Nat->Int->(List xq)->Option AH
 |0,_,_=>none
 |k+1,a,b=>
 cond (decide (a<(↑c.length:Int))) (
 (ix b a).bind λl=>
 (ix b a).bind λg=>
 (BR N g).bind λi=>
 (ix b a).bind λm=>
 (ix b a).bind λj=>
 EB N c d k (BO (a+1)) (upd b a i)) (
 d b)
def JM(N:Nat)(a:AH):Option AH:=
 (Gk N a.D).bind λb=>
 EB N b (Ep N a) N 0 b
def Fe(N:Nat)(a:(List ByteArray)):Option (List ByteArray):=
 chk (HN (([]:List ByteArray).length+a.length) 16) <|
 some (([]:List ByteArray)++a)
def Cf(N:Nat)(a:(List Ce)):Option (List Ce):=
 chk (HN (([]:List Ce).length+a.length) 152) <|
 some (([]:List Ce)++a)
def BV(N:Nat)(a:(List B3)):Option (List B3):=
 chk (HN (([]:List B3).length+a.length) 16) <|
 some (([]:List B3)++a)
def Cy(N:Nat)(a:(List Mf)):Option (List Mf):=
 chk (HN (([]:List Mf).length+a.length) 16) <|
 some (([]:List Mf)++a)
def Cx(N:Nat)(a:(List BG)):Option (List BG):=
 chk (HN (([]:List BG).length+a.length) 200) <|
 some (([]:List BG)++a)
def Cu(N:Nat)(a:(List Li)):Option (List Li):=
 chk (HN (([]:List Li).length+a.length) 64) <|
 some (([]:List Li)++a)
def Cg(N:Nat)(a:(List Jm)):Option (List Jm):=
 chk (HN (([]:List Jm).length+a.length) 48) <|
 some (([]:List Jm)++a)
def Cv(N:Nat)(a:(List LU)):Option (List LU):=
 chk (HN (([]:List LU).length+a.length) 64) <|
 some (([]:List LU)++a)
def CS(N:Nat)(a:(List HD)):Option (List HD):=
 chk (HN (([]:List HD).length+a.length) 24) <|
 some (([]:List HD)++a)
def EC(N:Nat)(j:(List BG))(l:(List BG)->Option AF):Nat->Int->(List BG)->Option AF
 |0,_,_=>none
 |s+1,a,b=>
 cond (decide (a<(↑j.length:Int))) (
 (ix b a).bind λq=>
 (ix b a).bind λm=>
 (BV N m.As).bind λd=>
 (ix b a).bind λg=>
 (ix (upd b a ({ g with As:=d})) a).bind λn=>
 (BV N n.Ae.Aw).bind λi=>
 (ix (upd b a ({ g with As:=d})) a).bind λc=>
 (ix (upd (upd b a ({ g with As:=d})) a ({ c with Ae:={ c.Ae with Aw:=i}})) a).bind λo=>
 (BV N o.Ae.Ax).bind λp=>
 (ix (upd (upd b a ({ g with As:=d})) a ({ c with Ae:={ c.Ae with Aw:=i}})) a).bind λk=>
 EC N j l s (BO (a+1)) (upd (upd (upd b a ({ g with As:=d})) a ({ c with Ae:={ c.Ae with Aw:=i}})) a ({ k with Ae:={ k.Ae with Ax:=p}}))) (
 l b)
def Eq(N:Nat)(a:AF)(k:(List ByteArray))(l:List Ce)(b:List BG):Option AF:=
 (Cu N a.Af).bind λc=>
 (Cg N a.Ah).bind λd=>
 (Cv N a.Ai).bind λg=>
 (CS N a.Ak).bind λi=>
 (BR N a.Aj).bind λj=>
 some (⟨a.G,k,a.L,l,b,c,d,g,i,j,a.M⟩:AF)
def Er(N:Nat)(a:AF)(c:(List ByteArray))(d:List Ce):Option AF:=
 (Cx N a.E).bind λb=>
 EC N b (Eq N a c d) N 0 b
def ED(N:Nat)(j:(List Ce))(k:(List Ce)->Option AF):Nat->Int->(List Ce)->Option AF
 |0,_,_=>none
 |q+1,a,b=>
 cond (decide (a<(↑j.length:Int))) (
 (ix b a).bind λs=>
 (ix b a).bind λp=>
 (BV N p.Bk).bind λc=>
 (ix b a).bind λd=>
 (ix (upd b a ({ d with Bk:=c})) a).bind λl=>
 (BR N l.An).bind λg=>
 (ix (upd b a ({ d with Bk:=c})) a).bind λi=>
 (ix (upd (upd b a ({ d with Bk:=c})) a ({ i with An:=g})) a).bind λm=>
 (Cy N m.U).bind λn=>
 (ix (upd (upd b a ({ d with Bk:=c})) a ({ i with An:=g})) a).bind λo=>
 ED N j k q (BO (a+1)) (upd (upd (upd b a ({ d with Bk:=c})) a ({ i with An:=g})) a ({ o with U:=n}))) (
 k b)
def JO(N:Nat)(a:AF):Option AF:=
 (Fe N a.I).bind λc=>
 (Cf N a.A).bind λb=>
 ED N b (Er N a c) N 0 b
def LI(N:Nat)(b:AF)(s:AH):Option (Option F8):=
 (HA N b).bind λa=>
 (cond (!a) (some true) ((LE N b s).bind λc=>
 some (!c))).bind λd=>
 cond d (some none) ((JM N s).bind λg=>(JO N b).bind λi=>some (some ⟨i,[(0,⟨-1,kO,g,[]⟩)],1⟩))
def Gj(N:Nat):Option Bool:=
 some true
def Dw(N:Nat)(a:xq)(b:xq)(c:Option Bool):Nat->Int->Option Bool
 |0,_=>none
 |j+1,d=>
 cond (decide (d<(↑a.length:Int))) (
 (ix a d).bind λg=>
 (ix b d).bind λi=>
 cond (decide (g≠i)) (
 some false) (
 Dw N a b c j (BO (d+1)))) (
 c)
def Hp(N:Nat)(a:xq)(b:xq):Option Bool:=
 cond (decide ((↑a.length:Int)≠(↑b.length:Int))) (
 some false) (
 Dw N a b (Gj N) N 0)
def Jx(N:Nat)(c:DP):Option Bool:=
 (Hp N c.a c.b).bind λd=>
 some d
def CV(N:Nat):Option Bool:=
 some true
def CF(N:Nat)(a:(List HE))(b:(List HE))(c:Option Bool):Nat->Int->Option Bool
 |0,_=>none
 |j+1,d=>
 cond (decide (d<(↑a.length:Int))) (
 (ix a d).bind λg=>
 (ix b d).bind λi=>
 cond (!(Rf g.v i.v)) (
 some false) (
 CF N a b c j (BO (d+1)))) (
 c)
def DZ(N:Nat)(a:(List HE))(b:(List HE)):Option Bool:=
 cond (decide ((↑a.length:Int)≠(↑b.length:Int))) (
 some false) (
 CF N a b (CV N) N 0)
def E6(N:Nat)(c:Ke):Option Bool:=
 (DZ N c.a c.b).bind λd=>
 some d
def Cq(N:Nat):Option Bool:=
 some true
def CN(N:Nat)(a:(List L9))(b:(List L9))(c:Option Bool):Nat->Int->Option Bool
 |0,_=>none
 |j+1,d=>
 cond (decide (d<(↑a.length:Int))) (
 (ix a d).bind λg=>
 (ix b d).bind λi=>
 cond (!(Rf g.v i.v)) (
 some false) (
 CN N a b c j (BO (d+1)))) (
 c)
def Dp(N:Nat)(a:(List L9))(b:(List L9)):Option Bool:=
 cond (decide ((↑a.length:Int)≠(↑b.length:Int))) (
 some false) (
 CN N a b (Cq N) N 0)
def Fg(N:Nat)(c:OG):Option Bool:=
 (Dp N c.a c.b).bind λd=>
 some d
def CZ(N:Nat):Option Bool:=
 some true
def CJ(N:Nat)(a:(List FO))(b:(List FO))(c:Option Bool):Nat->Int->Option Bool
 |0,_=>none
 |j+1,d=>
 cond (decide (d<(↑a.length:Int))) (
 (ix a d).bind λg=>
 (ix b d).bind λi=>
 cond (!(Rf g.v i.v)) (
 some false) (
 CJ N a b c j (BO (d+1)))) (
 c)
def Dd(N:Nat)(a:(List FO))(b:(List FO)):Option Bool:=
 cond (decide ((↑a.length:Int)≠(↑b.length:Int))) (
 some false) (
 CJ N a b (CZ N) N 0)
def FE(N:Nat)(c:L7):Option Bool:=
 (Dd N c.a c.b).bind λd=>
 some d
def Ca(N:Nat):Option Bool:=
 some true
def CL(N:Nat)(a:(List I3))(b:(List I3))(c:Option Bool):Nat->Int->Option Bool
 |0,_=>none
 |j+1,d=>
 cond (decide (d<(↑a.length:Int))) (
 (ix a d).bind λg=>
 (ix b d).bind λi=>
 cond (!(Rf g.v i.v)) (
 some false) (
 CL N a b c j (BO (d+1)))) (
 c)
def De(N:Nat)(a:(List I3))(b:(List I3)):Option Bool:=
 cond (decide ((↑a.length:Int)≠(↑b.length:Int))) (
 some false) (
 CL N a b (Ca N) N 0)
def FG(N:Nat)(c:L8):Option Bool:=
 (De N c.a c.b).bind λd=>
 some d
def JL(N:Nat)(a:AX)(b:AX):Option Bool:=
 (Jx N (⟨a.U,b.U⟩:DP)).bind λd=>
 (cond d ((E6 N (⟨a.Ab,b.Ab⟩:Ke)).bind λg=>
 some g) (some false)).bind λi=>
 (cond i ((Fg N (⟨a.Ac,b.Ac⟩:OG)).bind λj=>
 some j) (some false)).bind λk=>
 (cond k ((FE N (⟨a.V,b.V⟩:L7)).bind λl=>
 some l) (some false)).bind λm=>
 (cond m ((FG N (⟨a.Ad,b.Ad⟩:L8)).bind λc=>
 some c) (some false)).bind λn=>
 some n
def Da(N:Nat)(a:(List HE)):Option (List HE):=
 chk (HN (([]:List HE).length+a.length) 16) <|
 some (([]:List HE)++a)
def Dq(N:Nat)(a:(List L9)):Option (List L9):=
 chk (HN (([]:List L9).length+a.length) 16) <|
 some (([]:List L9)++a)
def Dg(N:Nat)(a:(List FO)):Option (List FO):=
 chk (HN (([]:List FO).length+a.length) 32) <|
 some (([]:List FO)++a)
def Dh(N:Nat)(a:(List I3)):Option (List I3):=
 chk (HN (([]:List I3).length+a.length) 32) <|
 some (([]:List I3)++a)
def JN(N:Nat)(a:AX):Option AX:=
 (BR N a.U).bind λb=>
 (Da N a.Ab).bind λc=>
 (Dq N a.Ac).bind λd=>
 (Dg N a.V).bind λg=>
 (Dh N a.Ad).bind λi=>
 some (⟨b,c,d,g,i⟩:AX)
def GV(N:Nat)(a:AH)(d:List xq):Option AH:=
 (BR N a.P).bind λg=>
 (By N a.Q).bind λi=>
 (BR N a.K).bind λb=>
 (BR N a.O).bind λc=>
 some (⟨a.B,d,g,a.F,i,b,c⟩:AH)
def GU(N:Nat)(b:AH)(d:(List xq)->Option AH):Nat->Int->(List xq)->Option AH
 |0,_,_=>none
 |j+1,a,c=>
 cond (decide (a<(↑b.D.length:Int))) (
 (ix b.D a).bind λg=>
 (BR N g).bind λi=>
 (ix c a).bind λk=>
 (ix c a).bind λl=>
 GU N b d j (BO (a+1)) (upd c a i)) (
 d c)
def Lc(N:Nat)(a:AH):Option AH:=
 chk (ME (↑a.D.length:Int) (↑a.D.length:Int) 24) <|
 GU N a (GV N a) N 0 (List.replicate ((↑a.D.length:Int):Int).toNat ([]:xq))
def HM(N:Nat)(a:A8)(b:Bool)(c:Bool):Option A8:=
 some (⟨a.Z,a.Aa,b,c⟩:A8)
def H2(N:Nat)(d:BG)(a:A8)(b:Int)(c:Bool->Bool->Option A8)(g:Bool):Option A8:=
 cond g (
 cond (decide (d.H=5)) (
 c a.Ay (decide (b=2))) (
 c a.Ay a.Am)) (
 c a.Ay a.Am)
def Iq(N:Nat)(c:BG)(b:A8)(a:Int):Option A8:=
 cond (decide (a=0)) (
 HM N b true b.Am) (
 cond (decide (a=1)) (
 HM N b false b.Am) (
 cond (decide (a=2)) (
 H2 N c b a (HM N b) (decide (a=2))) (
 H2 N c b a (HM N b) (decide (a=3)))))
def I1(N:Nat)(c:Int)(b:Int)(a:Int):Option Int:=
 cond (decide (c<b)) (
 some b) (
 cond (decide (a<c)) (
 some a) (
 some c))
def M5(N:Nat)(a:A8)(b:Int):Option A8:=
 some ({ a with Aa:=b}:A8)
def Kb(N:Nat)(c:BG)(b:A8)(a:Int):Option A8:=
 cond (decide (c.W≠0)) (
 (I1 N a 0 c.W).bind λd=>
 M5 N b d) (
 M5 N b b.Aa)
def H3(N:Nat)(b:Int)(a:Int):Option Int:=
 cond ((decide (a<0))&&(decide ((BO (9223372036854775807+a))<b))) (
 some 9223372036854775807) (
 cond ((decide (0<a))&&(decide (b<(BO ((-9223372036854775808)+a))))) (
 some (-9223372036854775808)) (
 some (BO (b-a))))
def I0(N:Nat)(b:BG)(a:A8):Option A8:=
 cond a.Ay (
 some a) (
 (H3 N a.Aa a.Z).bind λc=>
 (H3 N 0 b.Ag).bind λd=>
 (I1 N c d b.Ag).bind λg=>
 (Hb N a.Z g).bind λi=>
 some ({ a with Z:=i}:A8))
def HT(N:Nat)(a:Int)(b:Int->(List A8)->Option (List A8))(c:List A8):Option (List A8):=
 b (BO (a+1)) c
def C4(N:Nat)(xj:AS)(g:(List A8)->Option (List A8)):Nat->Int->(List A8)->Option (List A8)
 |0,_,_=>none
 |m+1,d,c=>
 cond (decide (d<(↑xj.in_.Ac.length:Int))) (
 (ix xj.in_.Ac d).bind λa=>
 (Hm N a.Ar (↑xj.b.E.length:Int)).bind λi=>
 cond i (
 (ix xj.b.E a.Ar).bind λj=>
 (ix c a.Ar).bind λn=>
 (ix c a.Ar).bind λk=>
 (Kb N j k a.Aa).bind λl=>
 (ix c a.Ar).bind λo=>
 (ix c a.Ar).bind λp=>
 HT N d (C4 N xj g m) (upd c a.Ar l)) (
 HT N d (C4 N xj g m) c)) (
 g c)
def D3(N:Nat)(xj:AS):Nat->Int->(List A8)->Option (List A8)
 |0,_,_=>none
 |m+1,a,c=>
 cond (decide (a<(↑xj.b.E.length:Int))) (
 (ix xj.b.E a).bind λd=>
 (ix c a).bind λj=>
 (ix c a).bind λg=>
 (I0 N d g).bind λi=>
 (ix c a).bind λk=>
 (ix c a).bind λl=>
 D3 N xj m (BO (a+1)) (upd c a i)) (
 some c)
def Dj(N:Nat)(xj:AS)(a:List A8):Option (List A8):=
 D3 N xj N 0 a
def Dk(N:Nat)(xj:AS)(a:List A8):Option (List A8):=
 C4 N xj (Dj N xj) N 0 a
def HU(N:Nat)(c:Int)(a:Int->(List A8)->Option (List A8))(b:List A8):Option (List A8):=
 a (BO (c+1)) b
def C5(N:Nat)(xj:AS)(c:(List A8)->Option (List A8)):Nat->Int->(List A8)->Option (List A8)
 |0,_,_=>none
 |m+1,g,d=>
 cond (decide (g<(↑xj.in_.Ab.length:Int))) (
 (ix xj.in_.Ab g).bind λa=>
 (Hm N a.Ar (↑xj.b.E.length:Int)).bind λi=>
 cond i (
 (ix xj.b.E a.Ar).bind λj=>
 (ix d a.Ar).bind λn=>
 (ix d a.Ar).bind λk=>
 (Iq N j k a.H).bind λl=>
 (ix d a.Ar).bind λo=>
 (ix d a.Ar).bind λp=>
 HU N g (C5 N xj c m) (upd d a.Ar l)) (
 HU N g (C5 N xj c m) d)) (
 c d)
def Hn(N:Nat)(xj:AS):Option (List A8):=
 C5 N xj (Dk N xj) N 0 xj.s.Q
def Lw(N:Nat)(b:xq)(a:Int):Option Int:=
 (cond ((decide (a<0))||(decide ((↑b.length:Int)<=a))) (some true) ((ix b a).bind λd=>
 some (decide (d<0)))).bind λg=>
 cond g (
 some 0) (
 (ix b a).bind λc=>
 some c)
def MV(N:Nat)(a:xq):Option xq:=
 some a
def NL(N:Nat)(a:xq)(b:Int)(c:Int)(d:Int):Option xq:=
 chk (ME (↑a.length:Int) (↑a.length:Int) 8) <|
 (Lw N a b).bind λg=>
 cond ((((decide (0<(min d g)))&&(decide (0<=c)))&&(decide (c<(↑a.length:Int))))&&(decide (b≠c))) (
 (ix (Qp (List.replicate ((↑a.length:Int):Int).toNat (0:Int)) a) b).bind λl=>
 (ix (Qp (List.replicate ((↑a.length:Int):Int).toNat (0:Int)) a) b).bind λi=>
 (ix (Qp (List.replicate ((↑a.length:Int):Int).toNat (0:Int)) a) b).bind λm=>
 (ix (Qp (List.replicate ((↑a.length:Int):Int).toNat (0:Int)) a) b).bind λn=>
 (ix (upd (Qp (List.replicate ((↑a.length:Int):Int).toNat (0:Int)) a) b (BO (i-(min d g)))) c).bind λo=>
 (ix (upd (Qp (List.replicate ((↑a.length:Int):Int).toNat (0:Int)) a) b (BO (i-(min d g)))) c).bind λj=>
 (Hb N j (min d g)).bind λk=>
 (ix (upd (Qp (List.replicate ((↑a.length:Int):Int).toNat (0:Int)) a) b (BO (i-(min d g)))) c).bind λp=>
 (ix (upd (Qp (List.replicate ((↑a.length:Int):Int).toNat (0:Int)) a) b (BO (i-(min d g)))) c).bind λq=>
 MV N (upd (upd (Qp (List.replicate ((↑a.length:Int):Int).toNat (0:Int)) a) b (BO (i-(min d g)))) c k)) (
 MV N (Qp (List.replicate ((↑a.length:Int):Int).toNat (0:Int)) a))
def HS(N:Nat)(c:Int)(a:Int->(List xq)->Option (List xq))(b:List xq):Option (List xq):=
 a (BO (c+1)) b
def Co(N:Nat)(xj:AS):Nat->Int->(List xq)->Option (List xq)
 |0,_,_=>none
 |o+1,d,c=>
 cond (decide (d<(↑xj.in_.Ad.length:Int))) (
 (ix xj.in_.Ad d).bind λa=>
 (Hm N a.Ap (↑xj.b.A.length:Int)).bind λg=>
 (cond g ((Hm N a.J (↑xj.b.I.length:Int)).bind λi=>
 some i) (some false)).bind λj=>
 (cond j ((Hm N a.C (↑xj.b.I.length:Int)).bind λk=>
 some k) (some false)).bind λl=>
 cond l (
 (ix c a.Ap).bind λq=>
 (ix c a.Ap).bind λm=>
 (NL N m a.J a.C a.Bd).bind λn=>
 (ix c a.Ap).bind λs=>
 (ix c a.Ap).bind λp=>
 HS N d (Co N xj o) (upd c a.Ap n)) (
 HS N d (Co N xj o) c)) (
 some c)
def ET(N:Nat)(xj:AS):Option (List xq):=
 Co N xj N 0 xj.s.D
def Ew(N:Nat)(xj:AS)(b:Int->Option ((List xq)×xq×(List AM))):Nat->Int->Int->Option ((List xq)×xq×(List AM))
 |0,_,_=>none
 |i+1,c,a=>
 cond (decide (a<(↑xj.s.F.length:Int))) (
 (ix xj.s.F a).bind λd=>
 (Dr N d.N).bind λg=>
 Ew N xj b i (BO (c+g)) (BO (a+1))) (
 b c)
def Hv(N:Nat)(xj:AS)(k:Int)(l:Int)(d:Int)(i:List AM)(g:List xq)(c:xq)(m:Int->Int->(List AM)->(List xq)->xq->Option ((List xq)×xq×(List AM)))(a:Int):Option ((List xq)×xq×(List AM)):=
 cond (decide (a<=0)) (
 m k l i g c) (
 (ix g d).bind λp=>
 (ix g d).bind λj=>
 (ix j 0).bind λn=>
 (ix j 0).bind λq=>
 (ix c 0).bind λt=>
 (ix c 0).bind λo=>
 (ix c 0).bind λu=>
 (ix c 0).bind λv=>
 chk (ME (↑xj.b.I.length:Int) (↑xj.b.I.length:Int) 8) <|
 (ix (List.replicate ((↑xj.b.I.length:Int):Int).toNat (0:Int)) 0).bind λw=>
 (ix (List.replicate ((↑xj.b.I.length:Int):Int).toNat (0:Int)) 0).bind λx=>
 chk (HN (i.length+([(⟨xj.s.B,(-1),d,(-4),(upd (List.replicate ((↑xj.b.I.length:Int):Int).toNat (0:Int)) 0 a)⟩:AM)]:List AM).length) 56) <|
 m (BO (k+a)) (BO (l+a)) (i++([(⟨xj.s.B,(-1),d,(-4),(upd (List.replicate ((↑xj.b.I.length:Int):Int).toNat (0:Int)) 0 a)⟩:AM)]:List AM)) (upd g d (upd j 0 (BO (n+a)))) (upd c 0 (BO (o+a))))
def Gm(N:Nat)(a:Int)(j:Int->Int->Int->(List AM)->(List xq)->xq->Option ((List xq)×xq×(List AM)))(b:Int)(c:Int)(d:List AM)(g:List xq)(i:xq):Option ((List xq)×xq×(List AM)):=
 j b c (BO (a+1)) d g i
def DQ(N:Nat)(xj:AS):Nat->Int->Int->Int->(List AM)->(List xq)->xq->Option ((List xq)×xq×(List AM))
 |0,_,_,_,_,_,_=>none
 |l+1,c,d,a,g,i,j=>
 cond (decide (a<(↑xj.b.A.length:Int))) (
 cond (decide (a<(↑xj.in_.U.length:Int))) (
 (ix xj.in_.U a).bind λk=>
 Hv N xj c d a g i j (Gm N a (DQ N xj l)) (min (min k (BO (1125899906842624-c))) (BO (1152921504606846976-d)))) (
 Hv N xj c d a g i j (Gm N a (DQ N xj l)) 0)) (
 some (i,j,g))
def Ey(N:Nat)(xj:AS)(a:Int):Option ((List xq)×xq×(List AM)):=
 (Dr N xj.s.K).bind λb=>
 DQ N xj N a b 0 xj.moves xj.s.D xj.s.K
def Ez(N:Nat)(xj:AS)(a:Int):Option ((List xq)×xq×(List AM)):=
 Ew N xj (Ey N xj) N a 0
def Ex(N:Nat)(xj:AS)(b:Int->Option ((List xq)×xq×(List AM))):Nat->Int->Int->Option ((List xq)×xq×(List AM))
 |0,_,_=>none
 |i+1,g,a=>
 cond (decide (a<(↑xj.s.D.length:Int))) (
 (ix xj.s.D a).bind λj=>
 (ix xj.s.D a).bind λc=>
 (Dr N c).bind λd=>
 Ex N xj b i (BO (g+d)) (BO (a+1))) (
 b g)
def KG(N:Nat)(xj:AS):Option ((List xq)×xq×(List AM)):=
 Ex N xj (Ez N xj) N 0 0
def Iy(N:Nat)(a:xq):Option xq:=
 some a
def G7(N:Nat)(c:xq)(d:xq->Option xq):Nat->Int->xq->Option xq
 |0,_,_=>none
 |k+1,a,b=>
 cond (decide (a<(↑c.length:Int))) (
 (ix c a).bind λg=>
 (ix b a).bind λl=>
 (ix b a).bind λi=>
 (Hb N i g).bind λj=>
 (ix b a).bind λm=>
 (ix b a).bind λn=>
 G7 N c d k (BO (a+1)) (upd b a j)) (
 d b)
def Hs(N:Nat)(a:xq)(b:xq):Option xq:=
 chk (ME (max (↑a.length:Int) (↑b.length:Int)) (max (↑a.length:Int) (↑b.length:Int)) 8) <|
 G7 N b (Iy N) N 0 (Qp (List.replicate ((max (↑a.length:Int) (↑b.length:Int)):Int).toNat (0:Int)) a)
def K5(N:Nat)(a:Int)(b:(List AY)->Int->(List xq)->Option ((List xq)×(List AY)))(c:List AY)(d:List xq):Option ((List xq)×(List AY)):=
 b c (BO (a+1)) d
def G6(N:Nat)(d:(List AY))(b:Int)(n:Int)(k:(List AY)->(List xq)->Option ((List xq)×(List AY))):Nat->(List AY)->Int->(List xq)->Option ((List xq)×(List AY))
 |0,_,_,_=>none
 |o+1,g,i,c=>
 cond (decide (i<(↑d.length:Int))) (
 (ix d i).bind λa=>
 cond (((decide (a.Av<=b))&&(decide (0<=a.C)))&&(decide (a.C<n))) (
 (ix c a.C).bind λp=>
 (ix c a.C).bind λl=>
 (Hs N l a.N).bind λm=>
 (ix c a.C).bind λq=>
 (ix c a.C).bind λs=>
 K5 N i (G6 N d b n k o) g (upd c a.C m)) (
 (BR N a.N).bind λj=>
 chk (HN (g.length+([({ a with N:=j}:AY)]:List AY).length) 40) <|
 K5 N i (G6 N d b n k o) (g++([({ a with N:=j}:AY)]:List AY)) c)) (
 k g c)
def JJ(N:Nat)(a:List AY)(b:List xq):Option ((List xq)×(List AY)):=
 some (b,a)
def Hr(N:Nat)(b:(List AY))(a:Int)(d:Int)(c:List xq):Option ((List xq)×(List AY)):=
 G6 N b a d (JJ N) N ([]:List AY) 0 c
def Hq(N:Nat)(g:Int)(d:Int)(c:(List xq)->Option ((List xq)×(List AY))):Nat->Int->(List xq)->Option ((List xq)×(List AY))
 |0,_,_=>none
 |i+1,a,b=>
 cond (decide (a<(↑(List.replicate (g:Int).toNat ([]:xq)).length:Int))) (
 chk (ME d d 8) <|
 (ix b a).bind λj=>
 (ix b a).bind λk=>
 Hq N g d c i (BO (a+1)) (upd b a (List.replicate (d:Int).toNat (0:Int)))) (
 c b)
def NJ(N:Nat)(d:(List AY))(c:Int)(a:Int)(b:Int):Option ((List xq)×(List AY)):=
 (I1 N a 0 64).bind λg=>
 (I1 N b 0 16).bind λi=>
 chk (ME g g 24) <|
 Hq N g i (Hr N d c g) N 0 (List.replicate (g:Int).toNat ([]:xq))
def KJ(N:Nat)(a:A8)(b:Bool):Option A8:=
 some ({ a with Am:=b}:A8)
def IL(N:Nat)(b:BG)(a:A8)(c:Int):Option A8:=
 cond (decide (b.H≠3)) (
 some a) (
 cond (decide (b.Az<=c)) (
 KJ N a true) (
 cond (decide (c<=b.Ba)) (
 KJ N a false) (
 KJ N a a.Am)))
def GD(N:Nat)(a:Int)(c:Int->(List A8)->Option ((List xq)×(List AY)×(List A8)×xq))(b:List A8):Option ((List xq)×(List AY)×(List A8)×xq):=
 c (BO (a+1)) b
def Ci(N:Nat)(xj:AS)(j:(List xq)×(List AY))(i:List xq)(d:xq):Nat->Int->(List A8)->Option ((List xq)×(List AY)×(List A8)×xq)
 |0,_,_=>none
 |n+1,a,c=>
 cond (decide (a<(↑xj.b.E.length:Int))) (
 (ix xj.b.E a).bind λg=>
 cond (decide (g.H=3)) (
 (ix c a).bind λo=>
 (ix c a).bind λk=>
 (ix d g.J).bind λp=>
 (ix d g.J).bind λl=>
 (IL N g k l).bind λm=>
 (ix c a).bind λq=>
 (ix c a).bind λs=>
 GD N a (Ci N xj j i d n) (upd c a m)) (
 GD N a (Ci N xj j i d n) c)) (
 some (i,j.2,c,d))
def DY(N:Nat)(xj:AS)(c:(List xq)×(List AY))(a:List xq)(b:xq):Option ((List xq)×(List AY)×(List A8)×xq):=
 Ci N xj c a b N 0 xj.s.Q
def C6(N:Nat)(xj:AS)(i:(List xq)×(List AY))(j:(List xq)->xq->Option ((List xq)×(List AY)×(List A8)×xq)):Nat->Int->(List xq)->xq->Option ((List xq)×(List AY)×(List A8)×xq)
 |0,_,_,_=>none
 |w+1,a,c,d=>
 cond (decide (a<(↑xj.b.A.length:Int))) (
 (ix c a).bind λo=>
 (ix c a).bind λk=>
 (ix i.1 a).bind λp=>
 (ix i.1 a).bind λl=>
 (Hs N k l).bind λg=>
 (ix c a).bind λq=>
 (ix c a).bind λs=>
 (ix (upd c a g) a).bind λt=>
 (ix (upd c a g) a).bind λm=>
 (Dr N m).bind λn=>
 (ix d a).bind λu=>
 (ix d a).bind λv=>
 C6 N xj i j w (BO (a+1)) (upd c a g) (upd d a n)) (
 j c d)
def GJ(N:Nat)(xj:AS):Option ((List xq)×(List AY)×(List A8)×xq):=
 (NJ N xj.s.F xj.s.B (↑xj.b.A.length:Int) (↑xj.b.I.length:Int)).bind λa=>
 C6 N xj a (DY N xj a) N 0 xj.s.D xj.peaks
def Ia(N:Nat)(a:xq):Option xq:=
 some a
def Gu(N:Nat)(a:xq)(d:xq->Option xq):Nat->Int->xq->Option xq
 |0,_,_=>none
 |j+1,b,c=>
 cond (decide (b<(↑a.length:Int))) (
 (ix a b).bind λg=>
 (ix c b).bind λk=>
 (ix c b).bind λi=>
 (ix c b).bind λl=>
 (ix c b).bind λm=>
 Gu N a d j (BO (b+1)) (upd c b (BO (i-g)))) (
 d c)
def JK(N:Nat)(a:xq)(b:xq):Option xq:=
 chk (ME (↑a.length:Int) (↑a.length:Int) 8) <|
 Gu N b (Ia N) N 0 (Qp (List.replicate ((↑a.length:Int):Int).toNat (0:Int)) a)
def KK(N:Nat)(a:xq)(b:xq):Option (xq×xq):=
 (JK N a b).bind λc=>
 some (b,c)
def NM(N:Nat)(b:xq)(a:Int)(c:Int):Option (xq×xq):=
 chk (ME (↑b.length:Int) (↑b.length:Int) 8) <|
 (Lw N b a).bind λd=>
 cond (decide (0<(min c d))) (
 (ix (List.replicate ((↑b.length:Int):Int).toNat (0:Int)) a).bind λg=>
 (ix (List.replicate ((↑b.length:Int):Int).toNat (0:Int)) a).bind λi=>
 KK N b (upd (List.replicate ((↑b.length:Int):Int).toNat (0:Int)) a (min c d))) (
 KK N b (List.replicate ((↑b.length:Int):Int).toNat (0:Int)))
def EN(N:Nat)(c1_:FO)(a:xq):Option (xq×xq):=
 (NM N a c1_.Bi c1_.Bd).bind λb=>
 some (b.1,b.2)
def D2(N:Nat)(a:List AD):Option (List AD):=
 some a
def HR(N:Nat)(a:Int)(b:(List AD)->Int->Option (List AD))(c:List AD):Option (List AD):=
 b c (BO (a+1))
def Cn(N:Nat)(xj:AS)(a:Int)(g:(List AD)->Option (List AD)):Nat->(List AD)->Int->Option (List AD)
 |0,_,_=>none
 |j+1,i,d=>
 cond (decide (d<(↑xj.in_.V.length:Int))) (
 (ix xj.in_.V d).bind λc=>
 (cond (decide (c.Ap≠a)) (some true) ((Hm N c.Bi (↑xj.b.I.length:Int)).bind λk=>
 some (!k))).bind λl=>
 cond (l||(decide (c.Bd<=0))) (
 HR N d (Cn N xj a g j) i) (
 (cond (decide (c.C≠(-1))) ((Hm N c.C (↑xj.b.A.length:Int)).bind λm=>
 (cond (!m) (some true) ((ix xj.b.A c.C).bind λn=>
 (ix xj.b.A a).bind λo=>
 some (decide (n.At≠o.At)))).bind λp=>
 some p) (some false)).bind λq=>
 cond q (
 HR N d (Cn N xj a g j) i) (
 chk (HN (i.length+1) 32) <|
 HR N d (Cn N xj a g j) (i++([(⟨c.C,0,(-3),(λx=>EN N c x)⟩:AD)]:List AD))))) (
 g i)
def Jt(N:Nat)(xj:AS)(a:Int):Option (List AD):=
 Cn N xj a (D2 N) N ([]:List AD) 0
def Iz(N:Nat)(c:Int)(a:Int)(b:Int):Option Int:=
 (G8 N c a b).bind λd=>
 cond (!d.2.2) (
 some 0) (
 some d.1)
def NN(N:Nat)(b:BG)(a:Int)(c:Int):Option Int:=
 cond (decide (b.C=(-1))) (
 some a) (
 (Iz N c b.Aq b.Al).bind λd=>
 (H3 N a d).bind λg=>
 some (max 0 g))
def N7(N:Nat)(a:(List B3))(b:Int):Option Int:=
 (Fo N a).bind λc=>
 cond (!c) (
 some 0) (
 (J9 N a b).bind λd=>
 some d.1)
def KM(N:Nat):Option Int:=
 some 0
def KL(N:Nat)(a:BG)(b:Int):Option Int:=
 (H3 N b a.Bc).bind λd=>
 (Iz N (max 0 d) a.Y a.T).bind λc=>
 some c
def Ma(N:Nat)(a:Bool)(b:Option Int):Option Int:=
 cond (!a) (
 some 0) (
 b)
def MZ(N:Nat)(c:BG)(a:Bool)(b:Int)(d:Option Int):Option Int:=
 cond a (
 (Iz N b c.Y c.T).bind λg=>
 some g) (
 d)
def MY(N:Nat)(b:BG)(a:Int):Option Int:=
 (Iz N b.Y a b.W).bind λc=>
 some c
def MW(N:Nat)(a:BG)(c:Int)(g:(List B3))(b:Int)(d:Int):Option Int:=
 (NN N a b d).bind λi=>
 (N7 N g i).bind λj=>
 (Iz N j c a.W).bind λk=>
 (Hb N k a.Bb).bind λl=>
 some l
def NO(N:Nat)(a:BG)(d:Int)(c:Bool)(i:(List B3))(b:Int)(g:Int):Option Int:=
 cond (decide (a.H=0)) (
 MW N a d i b g) (
 cond (decide (a.H=2)) (
 MY N a d) (
 cond (decide (a.H=3)) (
 MZ N a c b (KM N)) (
 cond (decide (a.H=5)) (
 Ma N c (KL N a b)) (
 cond (decide (a.H=1)) (
 KL N a b) (
 KM N)))))
def N6(N:Nat)(b:BG)(c:A8)(a:Int)(d:Int):Option Int:=
 (NO N b c.Z c.Am b.As a d).bind λg=>
 some g
def IK(N:Nat)(a:Int):Option Int:=
 some a
def Ga(N:Nat)(c:Int)(a:xq)(n:Int)(k:Int->xq->xq->xq->Option (xq×Bool)):Nat->Int->Int->xq->xq->xq->Option (xq×Bool)
 |0,_,_,_,_,_=>none
 |v+1,l,b,g,i,j=>
 cond (decide (b<(↑a.length:Int))) (
 (ix a b).bind λm=>
 (G8 N c m n).bind λd=>
 (ix j b).bind λo=>
 (ix j b).bind λp=>
 (ix i b).bind λq=>
 (ix i b).bind λs=>
 (ix g b).bind λt=>
 (ix g b).bind λu=>
 Ga N c a n k v (BO (l-d.1)) (BO (b+1)) (upd g b b) (upd i b d.2.1) (upd j b d.1)) (
 k l g i j)
def GZ(N:Nat)(c:xq)(g:xq->Option (xq×Bool)):Nat->Int->xq->Option (xq×Bool)
 |0,_,_=>none
 |m+1,d,a=>
 cond (decide (d<(↑c.length:Int))) (
 (ix c d).bind λb=>
 (ix a b).bind λj=>
 (ix a b).bind λi=>
 (ix a b).bind λk=>
 (ix a b).bind λl=>
 GZ N c g m (BO (d+1)) (upd a b (BO (i+1)))) (
 g a)
def IF(N:Nat)(a:xq):Option (xq×Bool):=
 some (a,true)
def Gc(N:Nat)(c:Int)(d:xq)(g:xq)(i:xq):Option (xq×Bool):=
 (UU d g).bind λa=>
 (Ael a c).bind λb=>
 GZ N b (IF N) N 0 i
def Gd(N:Nat)(b:Int)(a:xq)(c:Int):Option (xq×Bool):=
 cond ((decide (b<0))||(decide (c<b))) (
 some (([]:xq),false)) (
 chk (ME (↑a.length:Int) (↑a.length:Int) 8) <|
 cond (decide (c=0)) (
 some ((List.replicate ((↑a.length:Int):Int).toNat (0:Int)),true)) (
 chk (ME (↑a.length:Int) (↑a.length:Int) 8) <|
 chk (ME (↑a.length:Int) (↑a.length:Int) 8) <|
 Ga N b a c (Gc N) N b 0 (List.replicate ((↑a.length:Int):Int).toNat (0:Int)) (List.replicate ((↑a.length:Int):Int).toNat (0:Int)) (List.replicate ((↑a.length:Int):Int).toNat (0:Int))))
def Gb(N:Nat)(a:xq)(g:Int->Option (xq×Bool)):Nat->Int->Int->Option (xq×Bool)
 |0,_,_=>none
 |i+1,b,c=>
 cond (decide (c<(↑a.length:Int))) (
 (ix a c).bind λd=>
 cond ((decide (d<0))||(decide ((BO (1125899906842624-b))<d))) (
 some (([]:xq),false)) (
 Gb N a g i (BO (b+d)) (BO (c+1)))) (
 g b)
def Ld(N:Nat)(b:Int)(a:xq):Option (xq×Bool):=
 cond (decide (64<(↑a.length:Int))) (
 some (([]:xq),false)) (
 Gb N a (Gd N b a) N 0 0)
def IS(N:Nat)(a:xq)(b:xq):Option (xq×xq):=
 (JK N a b).bind λc=>
 some (b,c)
def K6(N:Nat)(a:xq->Option (xq×xq))(b:xq):Option (xq×xq):=
 a b
def NK(N:Nat)(a:xq)(b:Int):Option (xq×xq):=
 chk (ME (↑a.length:Int) (↑a.length:Int) 8) <|
 (cond ((decide (0<b))&&(decide ((↑a.length:Int)<=64))) ((Jv N a).bind λd=>
 some d) (some false)).bind λg=>
 cond g (
 (Dr N a).bind λi=>
 (Ld N (min b i) a).bind λc=>
 cond c.2 (
 K6 N (IS N a) (Qp (List.replicate ((↑a.length:Int):Int).toNat (0:Int)) c.1)) (
 K6 N (IS N a) (List.replicate ((↑a.length:Int):Int).toNat (0:Int)))) (
 IS N a (List.replicate ((↑a.length:Int):Int).toNat (0:Int)))
def AQ(N:Nat)(c1_:Int)(a:xq):Option (xq×xq):=
 (NK N a c1_).bind λb=>
 some (b.1,b.2)
def MD(N:Nat)(c:Int)(a:Int)(b:Int):Option Int:=
 (G8 N c a b).bind λd=>
 cond (!d.2.2) (
 some 0) (
 some d.1)
def Mv(N:Nat)(a:BG)(b:Int)(c:Int):Option Int:=
 cond (decide (a.H≠4)) (
 some 0) (
 (MD N b a.Y a.T).bind λd=>
 (MD N c a.Aq a.Al).bind λg=>
 some (BO (d-g)))
def D4(N:Nat)(a:List AD):Option (List AD):=
 some a
def IR(N:Nat)(xj:AS)(c:Int)(m:List AD)(b:Int)(a:BG)(g:(List AD)->Option (List AD))(i:Int):Option (List AD):=
 (ix xj.s.Q b).bind λn=>
 (ix xj.s.Q b).bind λj=>
 (ix xj.peaks c).bind λo=>
 (ix xj.peaks c).bind λk=>
 (N6 N a j k i).bind λl=>
 (IK N l).bind λd=>
 chk (HN (m.length+([(⟨a.C,a.S,b,(λx=>AQ N d x)⟩:AD)]:List AD).length) 32) <|
 g (m++([(⟨a.C,a.S,b,(λx=>AQ N d x)⟩:AD)]:List AD))
def EU(N:Nat)(a:Int)(b:(List AD)->Int->Option (List AD))(c:List AD):Option (List AD):=
 b c (BO (a+1))
def CQ(N:Nat)(xj:AS)(c:Int)(g:(List AD)->Option (List AD)):Nat->(List AD)->Int->Option (List AD)
 |0,_,_=>none
 |l+1,i,d=>
 cond (decide (d<(↑xj.b.E.length:Int))) (
 (ix xj.b.E d).bind λa=>
 cond ((decide (a.J=c))&&(decide (a.H≠4))) (
 cond (decide (a.C≠(-1))) (
 (ix xj.peaks a.C).bind λA=>
 (ix xj.peaks a.C).bind λu=>
 IR N xj c i d a (EU N d (CQ N xj c g l)) u) (
 IR N xj c i d a (EU N d (CQ N xj c g l)) 0)) (
 cond (decide (a.J=c)) (
 (ix xj.peaks c).bind λv=>
 (ix xj.peaks c).bind λm=>
 (ix xj.peaks a.C).bind λw=>
 (ix xj.peaks a.C).bind λn=>
 (Mv N a m n).bind λo=>
 (IK N o).bind λj=>
 chk (HN (i.length+([(⟨a.C,a.S,d,(λx=>AQ N j x)⟩:AD)]:List AD).length) 32) <|
 EU N d (CQ N xj c g l) (i++([(⟨a.C,a.S,d,(λx=>AQ N j x)⟩:AD)]:List AD))) (
 cond ((decide (a.C=c))&&(decide (a.H=4))) (
 (ix xj.peaks a.J).bind λy=>
 (ix xj.peaks a.J).bind λp=>
 (ix xj.peaks c).bind λz=>
 (ix xj.peaks c).bind λq=>
 (Mv N a p q).bind λs=>
 (H3 N 0 s).bind λt=>
 (IK N t).bind λk=>
 chk (HN (i.length+([(⟨a.J,a.S,d,(λx=>AQ N k x)⟩:AD)]:List AD).length) 32) <|
 EU N d (CQ N xj c g l) (i++([(⟨a.J,a.S,d,(λx=>AQ N k x)⟩:AD)]:List AD))) (
 EU N d (CQ N xj c g l) i)))) (
 g i)
def Ju(N:Nat)(xj:AS)(a:Int):Option (List AD):=
 CQ N xj a (D4 N) N ([]:List AD) 0
def CX(N:Nat)(a:List AD):Option (List AD):=
 some a
def Cp(N:Nat)(a:Int):Option (List AD):=
 cond (decide (a<0)) (
 none) (
 cond (decide (0<(BO (a-(BO (0-0)))))) (
 chk (decide (0<(BO (a-(BO (0-0)))))) <|
 chk (HN ((BO (a-(BO (0-0)))):Int).toNat 32) <|
 CX N ([]:List AD)) (
 CX N ([]:List AD)))
def CA(N:Nat)(a:(List (List AD)))(d:(List AD)->Option (List AD)):Nat->(List AD)->Int->Option (List AD)
 |0,_,_=>none
 |i+1,b,c=>
 cond (decide (c<(↑a.length:Int))) (
 (ix a c).bind λg=>
 chk (HN (b.length+g.length) 32) <|
 CA N a d i (b++g) (BO (c+1))) (
 d b)
def C7(N:Nat)(a:List AD):Option (List AD):=
 some a
def CR(N:Nat)(a:(List (List AD)))(c:Int):Option (List AD):=
 (Cp N c).bind λb=>
 CA N a (C7 N) N b 0
def CB(N:Nat)(a:(List (List AD)))(c:Int->Option (List AD)):Nat->Int->Int->Option (List AD)
 |0,_,_=>none
 |i+1,g,b=>
 cond (decide (b<(↑a.length:Int))) (
 (ix a b).bind λd=>
 cond (decide ((BO (g+(↑d.length:Int)))<0)) (
 none) (
 CB N a c i (BO (g+(↑d.length:Int))) (BO (b+1)))) (
 c g)
def Cb(N:Nat)(a:(List (List AD))):Option (List AD):=
 CB N a (CR N a) N 0 0
def FD(N:Nat):Option Int:=
 some (-1)
def Dn(N:Nat)(a:xq)(b:(Int->Option Bool))(c:Option Int):Nat->Int->Option Int
 |0,_=>none
 |j+1,d=>
 cond (decide (d<(↑a.length:Int))) (
 (ix a d).bind λg=>
 (b g).bind λi=>
 cond i (
 some d) (
 Dn N a b c j (BO (d+1)))) (
 c)
def GK(N:Nat)(a:xq)(b:(Int->Option Bool)):Option Int:=
 Dn N a b (FD N) N 0
def Gt(N:Nat)(a:xq)(b:(Int->Option Bool)):Option Bool:=
 (GK N a b).bind λc=>
 some (decide (0<=c))
def JI(N:Nat)(a:Int):Option Bool:=
 some (decide (0<a))
def MU(N:Nat)(c:Int)(b:Int)(a:xq):Option (List AY):=
 (cond (decide (b<0)) (some true) ((Gt N a (λx=>JI N x)).bind λg=>
 some (!g))).bind λi=>
 cond i (
 some ([]:List AY)) (
 (BR N a).bind λd=>
 chk (HN (([]:List AY).length+1) 40) <|
 some (([]:List AY)++([(⟨c,b,d⟩:AY)]:List AY)))
def ID(N:Nat)(xj:AS)(a:Int)(b:AD):Option ((List xq)×xq×(List AM)×(List AY)):=
 (ix xj.s.D a).bind λm=>
 (ix xj.s.D a).bind λj=>
 (b.take j).bind λc=>
 (ix xj.s.D a).bind λk=>
 (ix xj.s.D a).bind λl=>
 (Dr N c.1).bind λg=>
 cond (decide (g<=0)) (
 some ((upd xj.s.D a c.2),xj.s.O,xj.moves,xj.sent)) (
 chk (HN (xj.moves.length+([(⟨xj.s.B,a,b.to_,b.way,c.1⟩:AM)]:List AM).length) 56) <|
 cond (decide (b.to_=(-1))) (
 (Hs N xj.s.O c.1).bind λi=>
 some ((upd xj.s.D a c.2),i,(xj.moves++([(⟨xj.s.B,a,b.to_,b.way,c.1⟩:AM)]:List AM)),xj.sent)) (
 (MU N (BO ((BO (xj.s.B+1))+b.delay)) b.to_ c.1).bind λd=>
 chk (HN (xj.sent.length+d.length) 40) <|
 some ((upd xj.s.D a c.2),xj.s.O,(xj.moves++([(⟨xj.s.B,a,b.to_,b.way,c.1⟩:AM)]:List AM)),(xj.sent++d))))
def IE(N:Nat)(a:Ce)(b:Int×Int×Bool)(c:Int):Option (Int×Int):=
 cond (decide ((BO (b.2.1+c))<a.T)) (
 some (b.1,(BO (b.2.1+c)))) (
 some ((BO (b.1+1)),(BO ((BO (b.2.1+c))-a.T))))
def J8(N:Nat)(a:Ce)(d:Int)(b:Int):Option (Int×Int):=
 (G8 N d a.Y a.T).bind λc=>
 cond (!c.2.2) (
 some (0,0)) (
 cond ((decide (0<=b))&&(decide (b<a.T))) (
 IE N a c b) (
 IE N a c 0))
def FC(N:Nat)(xj:AS)(d:Int)(o:Ce)(g:List xq)(i:xq)(j:List AM)(k:List AY)(l:Int×Int)(n:(List xq)->xq->(List AM)->(List AY)->xq->Option ((List xq)×xq×xq×(List AM)×(List AY)))(c:xq):Option ((List xq)×xq×xq×(List AM)×(List AY)):=
 (IK N l.1).bind λm=>
 (ID N (⟨xj.b,xj.in_,(⟨xj.s.B,g,c,xj.s.F,xj.s.Q,xj.s.K,i⟩:AH),j,xj.peaks,k⟩:AS) d (⟨o.Ao,o.S,(-1),(λx=>AQ N m x)⟩:AD)).bind λa=>
 n a.1 a.2.1 a.2.2.1 a.2.2.2 c
def DW(N:Nat)(xj:AS)(d:Int)(o:Ce)(a:List xq)(i:xq)(j:List AM)(k:List AY)(g:xq):Option ((List xq)×xq×xq×(List AM)×(List AY)):=
 (ix a d).bind λp=>
 (ix a d).bind λm=>
 (Dr N m).bind λl=>
 cond (decide (0<(BO (l-o.Au)))) (
 (IK N (BO (l-o.Au))).bind λn=>
 (ID N (⟨xj.b,xj.in_,(⟨xj.s.B,a,g,xj.s.F,xj.s.Q,xj.s.K,i⟩:AH),j,xj.peaks,k⟩:AS) d (⟨o.Ao,o.S,(-2),(λx=>AQ N n x)⟩:AD)).bind λc=>
 some (c.1,g,c.2.1,c.2.2.1,c.2.2.2)) (
 some (a,g,i,j,k))
def GI(N:Nat)(xj:AS)(a:Int)(j:Ce)(b:List xq)(d:xq)(g:List AM)(i:List AY):Option ((List xq)×xq×xq×(List AM)×(List AY)):=
 cond (decide (j.T≠0)) (
 (ix xj.peaks a).bind λo=>
 (ix xj.peaks a).bind λk=>
 (ix xj.s.P a).bind λp=>
 (ix xj.s.P a).bind λl=>
 (J8 N j k l).bind λc=>
 (ix xj.s.P a).bind λq=>
 (ix xj.s.P a).bind λt=>
 (ix b a).bind λu=>
 (ix b a).bind λm=>
 (Dr N m).bind λn=>
 cond (decide (c.1<=n)) (
 (ix (upd xj.s.P a 0) a).bind λv=>
 (ix (upd xj.s.P a 0) a).bind λw=>
 FC N xj a j b d g i c (DW N xj a j) (upd (upd xj.s.P a 0) a c.2)) (
 FC N xj a j b d g i c (DW N xj a j) (upd xj.s.P a 0))) (
 DW N xj a j b d g i xj.s.P)
def Dm(N:Nat)(xj:AS)(g:Int)(d:(List AD))(m:(List xq)->xq->(List AM)->(List AY)->Option ((List xq)×xq×xq×(List AM)×(List AY))):Nat->Int->(List xq)->xq->(List AM)->(List AY)->Option ((List xq)×xq×xq×(List AM)×(List AY))
 |0,_,_,_,_,_=>none
 |p+1,a,i,j,k,l=>
 cond (decide (a<(↑d.length:Int))) (
 (ix d a).bind λo=>
 (ix d a).bind λn=>
 (ID N (⟨xj.b,xj.in_,(⟨xj.s.B,i,xj.s.P,xj.s.F,xj.s.Q,xj.s.K,j⟩:AH),k,xj.peaks,l⟩:AS) g n).bind λc=>
 Dm N xj g d m p (BO (a+1)) c.1 c.2.1 c.2.2.1 c.2.2.2) (
 m i j k l)
def Ho(N:Nat)(xj:AS)(a:Int):Option ((List xq)×xq×xq×(List AM)×(List AY)):=
 (ix xj.b.A a).bind λi=>
 (Jt N xj a).bind λc=>
 (Ju N xj a).bind λd=>
 (Cb N ([c,d]:List (List AD))).bind λg=>
 Dm N xj a g (GI N xj a i) N 0 xj.s.D xj.s.O xj.moves xj.sent
def Fd(N:Nat)(k:AH)(c:(List xq)×xq×(List AM))(a:(List xq)×(List AY)×(List A8)×xq)(d:List xq)(g:xq)(i:xq)(j:List AM)(b:List AY):Option (AH×(List AM)×xq):=
 chk (HN (a.2.1.length+b.length) 40) <|
 some ((⟨(BO (k.B+1)),d,g,(a.2.1++b),a.2.2.1,c.2.1,i⟩:AH),j,a.2.2.2)
def Fb(N:Nat)(c:AF)(d:AX)(o:AH)(i:(List xq)×xq×(List AM))(b:(List xq)×(List AY)×(List A8)×xq)(p:(List xq)->xq->xq->(List AM)->(List AY)->Option (AH×(List AM)×xq)):Nat->Int->(List xq)->xq->xq->(List AM)->(List AY)->Option (AH×(List AM)×xq)
 |0,_,_,_,_,_,_=>none
 |q+1,g,j,k,l,m,n=>
 cond (decide (g<(↑c.A.length:Int))) (
 (Ho N (⟨c,d,(⟨o.B,j,k,b.2.1,b.2.2.1,i.2.1,l⟩:AH),m,b.2.2.2,n⟩:AS) g).bind λa=>
 Fb N c d o i b p q (BO (g+1)) a.1 a.2.1 a.2.2.1 a.2.2.2.1 a.2.2.2.2) (
 p j k l m n)
def Hy(N:Nat)(a:AF)(j:AH)(c:AX):Option (AH×(List AM)×xq):=
 (Lc N j).bind λb=>
 chk (ME (↑a.A.length:Int) (↑a.A.length:Int) 8) <|
 (Hn N (⟨a,c,b,([]:List AM),(List.replicate ((↑a.A.length:Int):Int).toNat (0:Int)),([]:List AY)⟩:AS)).bind λg=>
 (ET N (⟨a,c,({ b with Q:=g}:AH),([]:List AM),(List.replicate ((↑a.A.length:Int):Int).toNat (0:Int)),([]:List AY)⟩:AS)).bind λk=>
 (KG N (⟨a,c,(⟨b.B,k,b.P,b.F,g,b.K,b.O⟩:AH),([]:List AM),(List.replicate ((↑a.A.length:Int):Int).toNat (0:Int)),([]:List AY)⟩:AS)).bind λd=>
 (GJ N (⟨a,c,(⟨b.B,d.1,b.P,b.F,g,d.2.1,b.O⟩:AH),d.2.2,(List.replicate ((↑a.A.length:Int):Int).toNat (0:Int)),([]:List AY)⟩:AS)).bind λi=>
 Fb N a c b d i (Fd N b d i) N 0 i.1 b.P b.O d.2.2 ([]:List AY)
def E4(N:Nat)(vs:List (Int×Dy))(p:Int)(ks:xq)(inp:AX)(fd:Int->Option (Int×Int×Option F8))(kj:Option (Int×Int×Option F8)):Nat->Int->Option (Int×Int×Option F8)
 |0,_=>none
 |n+1,i=>cond (decide (i<(ks.length:Int))) ((ix ks i).bind λk=>cond (decide (k=p)) none ((C3 vs k).bind λx=>(JL N x.inp inp).bind λy=>cond y (fd k) (E4 N vs p ks inp fd kj n (BO (i+1))))) kj
def Ik(N:Nat)(t:F8)(p:Int)(inp:AX)(x:Dy):Option (Int×Int×Option F8):=
 cond (decide (4096<=(t.vs.length:Int))) (some (0,8,some t)) ((JN N inp).bind λa=>(Hy N t.bas x.st a).bind λy=>cond (C3 t.vs t.cr).isSome none (chk (HN (x.kids.length+1) 8) (some (t.cr,0,some ⟨t.bas,Mo t.vs p { x with kids:=x.kids++[t.cr]}++[(t.cr,⟨p,a,y.1,[]⟩)],BO (t.cr+1)⟩))))
def Dt(N:Nat)(t:Option F8)(p:Int)(inp:AX):Option (Int×Int×Option F8):=t.bind λt=>cond (!(C3 t.vs p).isSome) (some (0,11,some t)) ((C3 t.vs p).bind λx=>cond (decide (x.st.B=16777216)) (some (0,15,some t)) (E4 N t.vs p x.kids inp (λk=>some (k,0,some t)) (Ik N t p inp x) N 0))
def IH(N:Nat)(t:Option F8)(id:Int):Option (AH×Int):=t.bind λt=>cond (!(C3 t.vs id).isSome) (some (st0,11)) ((C3 t.vs id).bind λx=>some (x.st,0))
def F7(N:Nat):Nat->Int->Int->xq->Option xq
 |0,_,_,_=>none
 |i+1,b,c,a=>
 cond (decide (b<c)) (
 (ix a c).bind λj=>
 (ix a c).bind λd=>
 (ix a b).bind λk=>
 (ix a b).bind λg=>
 (ix a b).bind λl=>
 (ix a b).bind λm=>
 (ix (upd a b d) c).bind λn=>
 (ix (upd a b d) c).bind λo=>
 F7 N i (BO (b+1)) (BO (c-1)) (upd (upd a b d) c g)) (
 some a)
def J7(N:Nat)(a:xq):Option xq:=
 F7 N N 0 (BO ((↑a.length:Int)-1)) a
def IT(N:Nat)(vs:List (Int×Dy)):Nat->xq->Int->Option xq
 |0,_,_=>none
 |n+1,l,id=>cond (C3 vs id).isSome ((C3 vs id).bind λx=>chk (HN (l.length+1) 8) (IT N vs n (l++[id]) x.par)) (some l)
def JP(N:Nat)(t:Option F8)(id:Int):Option xq:=t.bind λt=>(IT N t.vs N [] id).bind λl=>J7 N l
def JS(N:Nat)(a:Int):Option Int:=
 some a
def H8(N:Nat)(b:xq)(d:xq)(c:Int->Option Int):Nat->Int->Int->Option Int
 |0,_,_=>none
 |m+1,g,a=>
 (cond ((decide (a<(↑b.length:Int)))&&(decide (a<(↑d.length:Int)))) ((ix b a).bind λn=>
 (ix b a).bind λi=>
 (ix d a).bind λo=>
 (ix d a).bind λj=>
 some (decide (i=j))) (some false)).bind λk=>
 cond k (
 (ix b a).bind λp=>
 (ix b a).bind λl=>
 H8 N b d c m l (BO (a+1))) (
 c g)
def Ly(N:Nat)(a:(Option F8))(b:Int)(c:Int):Option Int:=
 (JP N a b).bind λd=>
 (JP N a c).bind λg=>
 H8 N d g (JS N) N (-1) 0
def H7(vs:List (Int×Dy)):Nat->xq->Int->Option xq
 |0,_,_=>none
 |n+1,ks,id=>cond ((C3 vs id).isSome&& !(ks.contains id)) ((C3 vs id).bind λx=>H7 vs n (ks++[id]) x.par) (some ks)
def G1(N:Nat)(vs:List (Int×Dy))(a:xq):Nat->xq->Int->Option xq
 |0,_,_=>none
 |n+1,ks,i=>cond (decide (i<(a.length:Int))) ((ix a i).bind λid=>(H7 vs N ks id).bind λb=>G1 N vs a n b (BO (i+1))) (some ks)
def LV(N:Nat)(t:Option F8)(a:xq):Option (Option F8):=t.bind λt=>(G1 N t.vs a N (cond (C3 t.vs 0).isSome [0] []) 0).bind λks=>some (some ⟨t.bas,Tb t.vs ks,t.cr⟩)
def Lx(N:Nat)(t:Option F8):Option Int:=t.bind λt=>some (max 0 (BO (t.cr-1)))
def Mb(N:Nat)(t:Option F8):Option Int:=t.bind λt=>chk (decide (t.vs.length<=4611686018427387904)) (some (t.vs.length:Int))
def JT(N:Nat):Option Bool:=
 some true
def H9(N:Nat)(a:xq)(b:xq)(c:Option Bool):Nat->Int->Option Bool
 |0,_=>none
 |j+1,d=>
 cond (decide (d<(↑a.length:Int))) (
 (ix a d).bind λg=>
 (ix b d).bind λi=>
 cond (decide (g≠i)) (
 some false) (
 H9 N a b c j (BO (d+1)))) (
 c)
def Lz(N:Nat)(a:xq)(b:xq):Option Bool:=
 cond (decide ((↑a.length:Int)≠(↑b.length:Int))) (
 some false) (
 H9 N a b (JT N) N 0)
def Kc(N:Nat)(a:xq)(b:xq):Option Bool:=
 (Lz N a b).bind λc=>
 some c
def Fp(N:Nat):Option Bool:=
 (LW N).bind λI=>
 (PH N I 0).bind λH=>
 (LI N I H).bind λk=>
 cond ((k).isNone) (
 some false) (
 (Dt N k 0 (⟨([50]:xq),[],[],[],[]⟩:AX)).bind λb=>
 (Dt N b.2.2 0 (⟨[],[],[],[],[]⟩:AX)).bind λc=>
 (Dt N c.2.2 b.1 (⟨[],[],[],[],[]⟩:AX)).bind λa=>
 (Dt N a.2.2 0 (⟨([50]:xq),[],[],[],[]⟩:AX)).bind λi=>
 (Dt N i.2.2 9 (⟨[],[],[],[],[]⟩:AX)).bind λd=>
 (IH N d.2.2 a.1).bind λg=>
 (cond (((((((decide (b.2.1≠0))||(decide (c.2.1≠0)))||(decide (a.2.1≠0)))||(decide (i.2.1≠0)))||(decide (g.2≠0)))||(decide (d.2.1≠11)))||(decide ((↑g.1.D.length:Int)≠1))) (some true) ((ix g.1.D 0).bind λl=>
 some (decide ((↑l.length:Int)≠1)))).bind λm=>
 (cond m (some true) ((ix g.1.D 0).bind λn=>
 (ix n 0).bind λo=>
 some (decide (o≠122)))).bind λp=>
 cond p (
 some false) (
 (JP N d.2.2 a.1).bind λq=>
 (Ly N d.2.2 a.1 c.1).bind λs=>
 (LV N d.2.2 ([c.1]:xq)).bind λj=>
 (IH N j b.1).bind λt=>
 (cond (decide (b.1=1)) (some (decide (c.1=2))) (some false)).bind λu=>
 (cond u (some (decide (a.1=3))) (some false)).bind λv=>
 (cond v (some (decide (i.1=1))) (some false)).bind λw=>
 (cond w ((Lx N j).bind λx=>
 some (decide (x=3))) (some false)).bind λy=>
 (cond y ((Mb N j).bind λz=>
 some (decide (z=2))) (some false)).bind λA=>
 (cond A ((Kc N q ([0,1,3]:xq)).bind λB=>
 some B) (some false)).bind λC=>
 (cond C (some (decide (s=0))) (some false)).bind λF=>
 (cond F (some (decide (t.2=11))) (some false)).bind λG=>
 some G))
def Hh(N:Nat):Option Bool:=
 some true
def FH(N:Nat)(a:(List BT))(d:Option Bool):Nat->Int->Option Bool
 |0,_=>none
 |j+1,c=>
 cond (decide (c<(↑a.length:Int))) (
 (ix a c).bind λb=>
 (cond (((((decide (8<(↑b.K.U.length:Int)))||(decide (6<(↑b.K.Ab.length:Int))))||(decide (6<(↑b.K.Ac.length:Int))))||(decide (6<(↑b.K.V.length:Int))))||(decide (6<(↑b.K.Ad.length:Int)))) (some true) ((ix a c).bind λg=>
 some (decide (8<(↑g.Bm.length:Int))))).bind λi=>
 cond i (
 some false) (
 FH N a d j (BO (c+1)))) (
 d)
def Jy(N:Nat)(a:AF)(b:(List BT)):Option Bool:=
 cond (((decide (6<(↑a.A.length:Int)))||(decide (6<(↑a.E.length:Int))))||(decide (16<(↑b.length:Int)))) (
 some false) (
 FH N b (Hh N) N 0)
def Il(N:Nat)(a:AF)(b:AH):Option (Option F8):=
 (HA N a).bind λc=>
 (cond (!c) (some true) ((LE N a b).bind λd=>
 some (!d))).bind λg=>
 cond g (
 some (none:Option F8)) (
 (LI N a b).bind λi=>
 some i)
def Gs(N:Nat)(a:xq)(c1_:xq):Nat->Int->xq->Option xq
 |0,_,_=>none
 |j+1,b,c=>
 cond (decide (b<(min (↑c1_.length:Int) (↑a.length:Int)))) (
 (ix c b).bind λk=>
 (ix c b).bind λd=>
 (ix a b).bind λg=>
 (Hb N d g).bind λi=>
 (ix c b).bind λl=>
 (ix c b).bind λm=>
 Gs N a c1_ j (BO (b+1)) (upd c b i)) (
 some c)
def KH(N:Nat)(c1_:xq)(a:xq):Option xq:=
 Gs N a c1_ N 0 c1_
def Hx(N:Nat)(a:AH)(c:xq->Option xq):Nat->Int->xq->Option xq
 |0,_,_=>none
 |j+1,b,d=>
 cond (decide (b<(↑a.F.length:Int))) (
 (ix a.F b).bind λi=>
 (KH N d i.N).bind λg=>
 Hx N a c j (BO (b+1)) g) (
 c d)
def Jn(N:Nat)(a:xq):Option xq:=
 some a
def HH(N:Nat)(a:AH)(b:xq):Option xq:=
 Hx N a (Jn N) N 0 b
def HG(N:Nat)(a:AH)(c:xq->Option xq):Nat->Int->xq->Option xq
 |0,_,_=>none
 |j+1,b,d=>
 cond (decide (b<(↑a.D.length:Int))) (
 (ix a.D b).bind λg=>
 (KH N d g).bind λi=>
 HG N a c j (BO (b+1)) i) (
 c d)
def MS(N:Nat)(a:AH):Option xq:=
 chk (ME (↑a.K.length:Int) (↑a.K.length:Int) 8) <|
 HG N a (HH N a) N 0 (List.replicate ((↑a.K.length:Int):Int).toNat (0:Int))
def Hg(N:Nat)(a:AH):Option Int:=
 (MS N a).bind λg=>
 (Dr N g).bind λb=>
 (Dr N a.O).bind λc=>
 (Hb N b c).bind λd=>
 some d
def Kh(N:Nat)(a:List AH)(b:List AM)(c:List xq):Option ((List AH)×(List AM)×(List xq)):=
 some (a,b,c)
def Hz(N:Nat)(c:AF)(b:(List AX))(k:(List AH)->(List AM)->(List xq)->Option ((List AH)×(List AM)×(List xq))):Nat->(List AH)->(List AM)->(List xq)->Int->Int->(List xq)->xq->(List AY)->(List A8)->xq->xq->Option ((List AH)×(List AM)×(List xq))
 |0,_,_,_,_,_,_,_,_,_,_,_=>none
 |u+1,d,g,i,j,m,n,o,p,q,s,t=>
 cond (decide (j<(↑b.length:Int))) (
 (ix b j).bind λl=>
 (Hy N c (⟨m,n,o,p,q,s,t⟩:AH) l).bind λa=>
 chk (HN (d.length+1) 152) <|
 chk (HN (g.length+a.2.1.length) 56) <|
 chk (HN (i.length+1) 24) <|
 Hz N c b k u (d++([a.1]:List AH)) (g++a.2.1) (i++([a.2.2]:List xq)) (BO (j+1)) a.1.B a.1.D a.1.P a.1.F a.1.Q a.1.K a.1.O) (
 k d g i)
def MT(N:Nat)(c:AF)(a:AH)(b:(List AX)):Option ((List AH)×(List AM)×(List xq)):=
 Hz N c b (Kh N) N ([]:List AH) ([]:List AM) ([]:List xq) 0 a.B a.D a.P a.F a.Q a.K a.O
def Kn(N:Nat):Option Bool:=
 some true
def Ix(N:Nat)(a:xq)(c:Option Bool):Nat->Int->Option Bool
 |0,_=>none
 |g+1,b=>
 cond (decide (b<(↑a.length:Int))) (
 (ix a b).bind λd=>
 cond ((decide (d<0))||(decide (2305843009213693952<d))) (
 some false) (
 Ix N a c g (BO (b+1)))) (
 c)
def Ka(N:Nat)(b:AF)(a:xq):Option Bool:=
 cond (decide ((↑a.length:Int)≠(↑b.I.length:Int))) (
 some false) (
 Ix N a (Kn N) N 0)
def Iw(N:Nat)(b:AF)(a:Int):Option Bool:=
 some ((decide (0<=a))&&(decide (a<(↑b.A.length:Int))))
def GL(N:Nat)(a:AF)(b:AH)(g:Option Bool):Nat->Int->Option Bool
 |0,_=>none
 |l+1,d=>
 cond (decide (d<(↑b.F.length:Int))) (
 (ix b.F d).bind λc=>
 (Iw N a c.C).bind λi=>
 (cond (!i) (some true) ((Ka N a c.N).bind λj=>
 some (!j))).bind λk=>
 cond k (
 some false) (
 GL N a b g l (BO (d+1)))) (
 g)
def JG(N:Nat):Option Bool:=
 some true
def GM(N:Nat)(a:AF)(b:AH):Option Bool:=
 GL N a b (JG N) N 0
def FT(N:Nat)(b:AF)(a:AH)(d:Option Bool):Nat->Int->Option Bool
 |0,_=>none
 |j+1,c=>
 cond (decide (c<(↑a.D.length:Int))) (
 (ix a.D c).bind λg=>
 (Ka N b g).bind λi=>
 cond (!i) (
 some false) (
 FT N b a d j (BO (c+1)))) (
 d)
def Jo(N:Nat)(a:AF)(b:AH):Option Bool:=
 (cond (decide ((↑b.D.length:Int)≠(↑a.A.length:Int))) (some true) ((Ka N a b.K).bind λc=>
 some (!c))).bind λd=>
 (cond d (some true) ((Ka N a b.O).bind λg=>
 some (!g))).bind λi=>
 cond i (
 some false) (
 FT N a b (GM N a b) N 0)
def K4(N:Nat)(b:AF)(a:AM):Option Bool:=
 (Ka N b a.N).bind λc=>
 (cond c ((cond (decide (a.J=(-1))) (some true) ((Iw N b a.J).bind λd=>
 some d)).bind λg=>
 some g) (some false)).bind λi=>
 (cond i ((cond (decide (a.C=(-1))) (some true) ((Iw N b a.C).bind λj=>
 some j)).bind λk=>
 some k) (some false)).bind λl=>
 some l
def K3(N:Nat)(xj:AJ)(a:Int):Option AJ:=
 (some (BO (xj.hi+(BO ((MH xj.lo (IntKind.wrap .u64 a) 0).2))))).bind λb=>
 some (⟨b,((MH xj.lo (IntKind.wrap .u64 a) 0).1)⟩:AJ)
def Em(N:Nat)(b:Int)(a:Int)(c:xq):Nat->Int->((List (AA×AJ)))->Option (List (AA×AJ))
 |0,_,_=>none
 |l+1,d,g=>
 cond (decide (d<(↑c.length:Int))) (
 (ix c d).bind λi=>
 (K3 N (⟨(BO (((KT (λk:AA=>Value.agg (AA.v k).toArray) g (⟨b,a,d⟩:AA)).getD (⟨0,0⟩:AJ)).hi)),(IntKind.wrap .u64 (((KT (λk:AA=>Value.agg (AA.v k).toArray) g (⟨b,a,d⟩:AA)).getD (⟨0,0⟩:AJ)).lo))⟩:AJ) i).bind λj=>
 Em N b a c l (BO (d+1)) (Mj (λk:AA=>Value.agg (AA.v k).toArray) g (⟨b,a,d⟩:AA) j)) (
 some g)
def FU(N:Nat)(d:(List (AA×AJ)))(b:Int)(a:Int)(c:xq):Option (List (AA×AJ)):=
 Em N b a c N 0 d
def DC(N:Nat)(a:AH)(c:((List (AA×AJ)))->Option (List (AA×AJ))):Nat->Int->((List (AA×AJ)))->Option (List (AA×AJ))
 |0,_,_=>none
 |j+1,b,d=>
 cond (decide (b<(↑a.F.length:Int))) (
 (ix a.F b).bind λg=>
 (FU N d 0 g.C g.N).bind λi=>
 DC N a c j (BO (b+1)) i) (
 c d)
def DE(N:Nat)(a:AH)(c:(List (AA×AJ))):Option (List (AA×AJ)):=
 (FU N c 1 (-1) a.K).bind λd=>
 (FU N d 2 (-1) a.O).bind λb=>
 some b
def DF(N:Nat)(a:AH)(b:(List (AA×AJ))):Option (List (AA×AJ)):=
 DC N a (DE N a) N 0 b
def DD(N:Nat)(a:AH)(c:((List (AA×AJ)))->Option (List (AA×AJ))):Nat->Int->((List (AA×AJ)))->Option (List (AA×AJ))
 |0,_,_=>none
 |j+1,b,d=>
 cond (decide (b<(↑a.D.length:Int))) (
 (ix a.D b).bind λg=>
 (FU N d 0 b g).bind λi=>
 DD N a c j (BO (b+1)) i) (
 c d)
def G5(N:Nat)(b:(List (AA×AJ)))(a:AH):Option (List (AA×AJ)):=
 DD N a (DF N a) N 0 b
def K2(N:Nat)(xj:AJ)(a:Int):Option AJ:=
 (some (BO (xj.hi-(BO ((MG xj.lo (IntKind.wrap .u64 a) 0).2))))).bind λb=>
 some (⟨b,((MG xj.lo (IntKind.wrap .u64 a) 0).1)⟩:AJ)
def En(N:Nat)(b:Int)(a:Int)(c:xq):Nat->Int->((List (AA×AJ)))->Option (List (AA×AJ))
 |0,_,_=>none
 |l+1,d,g=>
 cond (decide (d<(↑c.length:Int))) (
 (ix c d).bind λi=>
 (K2 N (⟨(BO (((KT (λk:AA=>Value.agg (AA.v k).toArray) g (⟨b,a,d⟩:AA)).getD (⟨0,0⟩:AJ)).hi)),(IntKind.wrap .u64 (((KT (λk:AA=>Value.agg (AA.v k).toArray) g (⟨b,a,d⟩:AA)).getD (⟨0,0⟩:AJ)).lo))⟩:AJ) i).bind λj=>
 En N b a c l (BO (d+1)) (Mj (λk:AA=>Value.agg (AA.v k).toArray) g (⟨b,a,d⟩:AA) j)) (
 some g)
def D9(N:Nat)(d:(List (AA×AJ)))(b:Int)(a:Int)(c:xq):Option (List (AA×AJ)):=
 En N b a c N 0 d
def C8(N:Nat)(a:AH)(c:((List (AA×AJ)))->Option (List (AA×AJ))):Nat->Int->((List (AA×AJ)))->Option (List (AA×AJ))
 |0,_,_=>none
 |j+1,b,d=>
 cond (decide (b<(↑a.F.length:Int))) (
 (ix a.F b).bind λg=>
 (D9 N d 0 g.C g.N).bind λi=>
 C8 N a c j (BO (b+1)) i) (
 c d)
def DA(N:Nat)(a:AH)(c:(List (AA×AJ))):Option (List (AA×AJ)):=
 (D9 N c 1 (-1) a.K).bind λd=>
 (D9 N d 2 (-1) a.O).bind λb=>
 some b
def DB(N:Nat)(a:AH)(b:(List (AA×AJ))):Option (List (AA×AJ)):=
 C8 N a (DA N a) N 0 b
def C9(N:Nat)(a:AH)(c:((List (AA×AJ)))->Option (List (AA×AJ))):Nat->Int->((List (AA×AJ)))->Option (List (AA×AJ))
 |0,_,_=>none
 |j+1,b,d=>
 cond (decide (b<(↑a.D.length:Int))) (
 (ix a.D b).bind λg=>
 (D9 N d 0 b g).bind λi=>
 C9 N a c j (BO (b+1)) i) (
 c d)
def G4(N:Nat)(b:(List (AA×AJ)))(a:AH):Option (List (AA×AJ)):=
 C9 N a (DB N a) N 0 b
def G0(N:Nat)(a:AM)(b:(List (AA×AJ))):Option (List (AA×AJ)):=
 cond (decide (a.J=(-1))) (
 (D9 N b 1 (-1) a.N).bind λc=>
 some c) (
 (FU N b 0 a.J a.N).bind λd=>
 some d)
def JH(N:Nat)(b:(List (AA×AJ)))(a:AM):Option (List (AA×AJ)):=
 cond (decide (a.C=(-1))) (
 (D9 N b 2 (-1) a.N).bind λc=>
 G0 N a c) (
 (D9 N b 0 a.C a.N).bind λd=>
 G0 N a d)
def GW(N:Nat)(a:(List AM))(d:((List (AA×AJ)))->Option Bool):Nat->Int->((List (AA×AJ)))->Option Bool
 |0,_,_=>none
 |j+1,b,c=>
 cond (decide (b<(↑a.length:Int))) (
 (ix a b).bind λg=>
 (JH N c g).bind λi=>
 GW N a d j (BO (b+1)) i) (
 d c)
def HW(N:Nat)(a:AA×AJ):Option Bool:=
 cond (!(Rf (⟨(BO a.2.hi),(IntKind.wrap .u64 a.2.lo)⟩:AJ).v (⟨0,0⟩:AJ).v)) (
 some false) (
 none)
def LG(N:Nat):Option Bool:=
 some true
def GY(N:Nat)(a:(List (AA×AJ))):Option Bool:=
 cond (List.all a (λe=>(HW N e).isNone)) (LG N) (some false)
def HX(N:Nat)(b:AH)(c:AH)(a:(List AM)):Option Bool:=
 (G5 N ([]:(List (AA×AJ))) c).bind λd=>
 (G4 N d b).bind λg=>
 GW N a (GY N) N 0 g
def GX(N:Nat)(b:AF)(a:(List AM))(d:Option Bool):Nat->Int->Option Bool
 |0,_=>none
 |j+1,c=>
 cond (decide (c<(↑a.length:Int))) (
 (ix a c).bind λg=>
 (K4 N b g).bind λi=>
 cond (!i) (
 some false) (
 GX N b a d j (BO (c+1)))) (
 d)
def Ko(N:Nat)(b:AF)(c:AH)(d:AH)(a:(List AM)):Option Bool:=
 (Jo N b c).bind λg=>
 (cond (!g) (some true) ((Jo N b d).bind λi=>
 some (!i))).bind λj=>
 cond j (
 some false) (
 GX N b a (HX N c d a) N 0)
def CI(N:Nat)(d:Bool)(b:List (List AX))(a:Int)(g:Option Bool):Nat->Int->Option Bool
 |0,_=>none
 |n+1,c=>
 (ix b a).bind λl=>
 (ix b a).bind λi=>
 cond (decide (c<(↑i.length:Int))) (
 (ix b a).bind λm=>
 (ix b a).bind λj=>
 (ix j c).bind λk=>
 cond (decide (0<(↑k.Ad.length:Int))) (
 some d) (
 CI N d b a g n (BO (c+1)))) (
 g)
def Du(N:Nat)(b:AF)(c:AH)(d:List (List AX))(a:Int)(g:AH×Int)(l:Int->Option Bool):Option Bool:=
 (ix d a).bind λm=>
 (ix d a).bind λi=>
 (MT N b c i).bind λj=>
 (Ko N b c g.1 j.2.1).bind λk=>
 cond (!k) (
 some false) (
 l (BO (a+1)))
def B0(N:Nat)(g:AF)(a:AH)(i:Bool)(d:List (List AX))(j:(Option F8))(k:Option Bool):Nat->Int->Option Bool
 |0,_=>none
 |q+1,b=>
 cond (decide (b<(↑d.length:Int))) (
 (IH N j b).bind λc=>
 (cond (decide (c.2≠0)) (some true) ((Hg N c.1).bind λl=>
 (Dr N c.1.K).bind λm=>
 (Hg N a).bind λn=>
 (Dr N a.K).bind λo=>
 some (decide ((BO (l-m))≠(BO (n-o)))))).bind λp=>
 cond p (
 some false) (
 CI N i d b (Du N g a d b c (B0 N g a i d j k q)) N 0)) (
 k)
def DK(N:Nat)(a:Bool):Option Bool:=
 some a
def DL(N:Nat)(a:AF)(b:AH)(c:Bool)(d:List (List AX))(g:(Option F8)):Option Bool:=
 B0 N a b c d g (DK N c) N 0
def EY(N:Nat)(a:Int)(b:(List (List AX))->Int->((Option F8))->Option Bool)(c:List (List AX))(d:(Option F8)):Option Bool:=
 b c (BO (a+1)) d
def B6(N:Nat)(a:(List BT))(j:(List (List AX))->((Option F8))->Option Bool):Nat->(List (List AX))->Int->((Option F8))->Option Bool
 |0,_,_,_=>none
 |t+1,c,b,k=>
 cond (decide (b<(↑a.length:Int))) (
 (ix a b).bind λq=>
 (ix a b).bind λs=>
 (Dt N k q.Bf s.K).bind λd=>
 (cond ((decide (d.2.1=0))&&(decide (d.1=(↑c.length:Int)))) ((ix a b).bind λl=>
 some (decide (0<=l.Bf))) (some false)).bind λm=>
 (cond m ((ix a b).bind λn=>
 some (decide (n.Bf<d.1))) (some false)).bind λo=>
 cond o (
 (ix a b).bind λi=>
 (ix c i.Bf).bind λu=>
 (ix c i.Bf).bind λg=>
 chk (HN (([]:List AX).length+g.length) 120) <|
 (ix a b).bind λp=>
 chk (HN ((([]:List AX)++g).length+1) 120) <|
 chk (HN (c.length+1) 24) <|
 EY N b (B6 N a j t) (c++([((([]:List AX)++g)++([p.K]:List AX))]:List (List AX))) d.2.2) (
 EY N b (B6 N a j t) c d.2.2)) (
 j c k)
def FJ(N:Nat)(a:AF)(b:AH)(c:(List BT)):Option Bool:=
 (Fp N).bind λd=>
 (Jy N a c).bind λi=>
 (Il N a b).bind λg=>
 cond ((!i)||((g).isNone)) (
 some d) (
 B6 N c (DL N a b d) N ([[]]:List (List AX)) 0 g)
end Go.Proofs.YtabonambpbofgaaGreat
