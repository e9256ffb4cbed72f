import Derived.Test.YtedgiljmffngoaaGreatPReps
import Derived.Test.YtedgiljmffngoaaGreatPSortD
namespace Go.Proofs.YtedgiljmffngoaaGreat
set_option linter.all false
open Go.RowKit
def lJ (N:Nat) (s:ByteArray):Option AT:=some ⟨s,false⟩
def J0 (N:Nat):Option AE:=
 some (⟨(ByteArray.mk #[120]),Pc,0,Pb,[],[],[],[],[],([1000,1000,1000]:List Int),0⟩:AE)
def Cg (N:Nat) (a:(List Int)):Option (List Int):=
 chk (I2 (([]:List Int).length+a.length) 8) <|
 some (([]:List Int)++a)
def KJ (N:Nat) (a:AE) (b:Int) (c:List (List Int)):Option AF:=
 some (⟨b,c,(List.replicate ((↑a.A.length:Int):Int).toNat (0:Int)),[],(List.replicate ((↑a.F.length:Int):Int).toNat ((⟨0,0,false,false⟩:AQ):AQ)),(List.replicate ((↑a.I.length:Int):Int).toNat (0:Int)),(List.replicate ((↑a.I.length:Int):Int).toNat (0:Int))⟩:AF)
def JH (N:Nat) (c:AE) (d:(List (List Int))→Option AF):Nat→Int→(List (List Int))→Option AF
 |0,_,_=>none
 |l+1,a,b=>
 cond (decide (a<(↑c.A.length:Int))) (
 (ix c.A a).bind λg=>
 (Cg N g.Be).bind λi=>
 (ix b a).bind λj=>
 (ix b a).bind λk=>
 JH N c d l (A9 (a+1)) (upd b a i)) (
 d b)
def N2 (N:Nat) (a:AE) (b:Int):Option AF:=
 chk (KR (↑a.A.length:Int) (↑a.A.length:Int) 24) <|
 chk (KR (↑a.A.length:Int) (↑a.A.length:Int) 8) <|
 chk (KR (↑a.F.length:Int) (↑a.F.length:Int) 24) <|
 chk (KR (↑a.I.length:Int) (↑a.I.length:Int) 8) <|
 chk (KR (↑a.I.length:Int) (↑a.I.length:Int) 8) <|
 JH N a (KJ N a b) N 0 (List.replicate ((↑a.A.length:Int):Int).toNat ([]:(List Int)))
def CR (N:Nat) (a:(List AQ)):Option (List AQ):=
 chk (I2 (([]:List AQ).length+a.length) 24) <|
 some (([]:List AQ)++a)
def FA (N:Nat) (a:AF) (d:List (List Int)):Option AF:=
 (Cg N a.M).bind λg=>
 (CR N a.O).bind λi=>
 (Cg N a.N).bind λb=>
 (Cg N a.L).bind λc=>
 some (⟨a.C,d,g,a.H,i,b,c⟩:AF)
def E9 (N:Nat) (b:AF) (d:(List (List Int))→Option AF):Nat→Int→(List (List Int))→Option AF
 |0,_,_=>none
 |j+1,a,c=>
 cond (decide (a<(↑b.E.length:Int))) (
 (ix b.E a).bind λg=>
 (Cg N g).bind λi=>
 (ix c a).bind λk=>
 (ix c a).bind λl=>
 E9 N b d j (A9 (a+1)) (upd c a i)) (
 d c)
def J6 (N:Nat) (a:AF):Option AF:=
 chk (KR (↑a.E.length:Int) (↑a.E.length:Int) 24) <|
 E9 N a (FA N a) N 0 (List.replicate ((↑a.E.length:Int):Int).toNat ([]:(List Int)))
def Gb (N:Nat) (b:Int) (a:Int):Option Bool:=
 some ((decide (0≤b))&&(decide (b<a)))
def F8 (N:Nat) (a:AQ) (b:Bool) (c:Bool):Option AQ:=
 some (⟨a.V,a.X,b,c⟩:AQ)
def Gu (N:Nat) (d:BL) (a:AQ) (b:Int) (c:Bool→Bool→Option AQ) (g:Bool):Option AQ:=
 cond g (
 cond (decide (d.G=5)) (
 c a.Au (decide (b=2))) (
 c a.Au a.Am)) (
 c a.Au a.Am)
def Hi (N:Nat) (c:BL) (b:AQ) (a:Int):Option AQ:=
 cond (decide (a=0)) (
 F8 N b true b.Am) (
 cond (decide (a=1)) (
 F8 N b false b.Am) (
 cond (decide (a=2)) (
 Gu N c b a (F8 N b) (decide (a=2))) (
 Gu N c b a (F8 N b) (decide (a=3)))))
def Hp (N:Nat) (c:Int) (b:Int) (a:Int):Option Int:=
 cond (decide (c<b)) (
 some b) (
 cond (decide (a<c)) (
 some a) (
 some c))
def Lf (N:Nat) (a:AQ) (b:Int):Option AQ:=
 some ({ a with X:=b}:AQ)
def I6 (N:Nat) (c:BL) (b:AQ) (a:Int):Option AQ:=
 cond (decide (c.U≠0)) (
 (Hp N a 0 c.U).bind λd=>
 Lf N b d) (
 Lf N b b.X)
def GM (N:Nat) (b:Int) (a:Int):Option Int:=
 cond ((decide (a<0))&&(decide ((A9 (9223372036854775807+a))<b))) (
 some 9223372036854775807) (
 cond ((decide (0<a))&&(decide (b<(A9 ((-9223372036854775808)+a))))) (
 some (-9223372036854775808)) (
 some (A9 (b-a))))
def Er (N:Nat) (b:Int) (a:Int):Option Int:=
 cond ((decide (0<a))&&(decide ((A9 (9223372036854775807-a))<b))) (
 some 9223372036854775807) (
 cond ((decide (a<0))&&(decide (b<(A9 ((-9223372036854775808)-a))))) (
 some (-9223372036854775808)) (
 some (A9 (b+a))))
def Ho (N:Nat) (b:BL) (a:AQ):Option AQ:=
 cond a.Au (
 some a) (
 (GM N a.X a.V).bind λc=>
 (GM N 0 b.Ad).bind λd=>
 (Hp N c d b.Ad).bind λg=>
 (Er N a.V g).bind λi=>
 some ({ a with V:=i}:AQ))
def GG (N:Nat) (a:Int) (b:Int→(List AQ)→Option (List AQ)) (c:List AQ):Option (List AQ):=
 b (A9 (a+1)) c
def CW (N:Nat) (p0_w:AL) (g:(List AQ)→Option (List AQ)):Nat→Int→(List AQ)→Option (List AQ)
 |0,_,_=>none
 |m+1,d,c=>
 cond (decide (d<(↑p0_w.in_.Aj.length:Int))) (
 (ix p0_w.in_.Aj d).bind λa=>
 (Gb N a.At (↑p0_w.b.F.length:Int)).bind λi=>
 cond i (
 (ix p0_w.b.F a.At).bind λj=>
 (ix c a.At).bind λn=>
 (ix c a.At).bind λk=>
 (I6 N j k a.X).bind λl=>
 (ix c a.At).bind λo=>
 (ix c a.At).bind λp=>
 GG N d (CW N p0_w g m) (upd c a.At l)) (
 GG N d (CW N p0_w g m) c)) (
 g c)
def DA (N:Nat) (p0_w:AL):Nat→Int→(List AQ)→Option (List AQ)
 |0,_,_=>none
 |m+1,a,c=>
 cond (decide (a<(↑p0_w.b.F.length:Int))) (
 (ix p0_w.b.F a).bind λd=>
 (ix c a).bind λj=>
 (ix c a).bind λg=>
 (Ho N d g).bind λi=>
 (ix c a).bind λk=>
 (ix c a).bind λl=>
 DA N p0_w m (A9 (a+1)) (upd c a i)) (
 some c)
def Cv (N:Nat) (p0_w:AL) (a:List AQ):Option (List AQ):=
 DA N p0_w N 0 a
def Cw (N:Nat) (p0_w:AL) (a:List AQ):Option (List AQ):=
 CW N p0_w (Cv N p0_w) N 0 a
def GH (N:Nat) (c:Int) (a:Int→(List AQ)→Option (List AQ)) (b:List AQ):Option (List AQ):=
 a (A9 (c+1)) b
def CX (N:Nat) (p0_w:AL) (c:(List AQ)→Option (List AQ)):Nat→Int→(List AQ)→Option (List AQ)
 |0,_,_=>none
 |m+1,g,d=>
 cond (decide (g<(↑p0_w.in_.Ah.length:Int))) (
 (ix p0_w.in_.Ah g).bind λa=>
 (Gb N a.At (↑p0_w.b.F.length:Int)).bind λi=>
 cond i (
 (ix p0_w.b.F a.At).bind λj=>
 (ix d a.At).bind λn=>
 (ix d a.At).bind λk=>
 (Hi N j k a.G).bind λl=>
 (ix d a.At).bind λo=>
 (ix d a.At).bind λp=>
 GH N g (CX N p0_w c m) (upd d a.At l)) (
 GH N g (CX N p0_w c m) d)) (
 c d)
def Gc (N:Nat) (p0_w:AL):Option (List AQ):=
 CX N p0_w (Cw N p0_w) N 0 p0_w.s.O
def KZ (N:Nat) (b:(List Int)) (a:Int):Option Int:=
 (cond ((decide (a<0))||(decide ((↑b.length:Int)≤a))) (some true) ((ix b a).bind λd=>
 some (decide (d<0)))).bind λg=>
 cond g (
 some 0) (
 (ix b a).bind λc=>
 some c)
def Ku (N:Nat) (a:List Int):Option (List Int):=
 some a
def Lq (N:Nat) (a:(List Int)) (b:Int) (c:Int) (d:Int):Option (List Int):=
 chk (KR (↑a.length:Int) (↑a.length:Int) 8) <|
 (KZ N a b).bind λg=>
 cond ((((decide (0<(min d g)))&&(decide (0≤c)))&&(decide (c<(↑a.length:Int))))&&(decide (b≠c))) (
 (ix (Pf (List.replicate ((↑a.length:Int):Int).toNat (0:Int)) a) b).bind λl=>
 (ix (Pf (List.replicate ((↑a.length:Int):Int).toNat (0:Int)) a) b).bind λi=>
 (ix (Pf (List.replicate ((↑a.length:Int):Int).toNat (0:Int)) a) b).bind λm=>
 (ix (Pf (List.replicate ((↑a.length:Int):Int).toNat (0:Int)) a) b).bind λn=>
 (ix (upd (Pf (List.replicate ((↑a.length:Int):Int).toNat (0:Int)) a) b (A9 (i-(min d g)))) c).bind λo=>
 (ix (upd (Pf (List.replicate ((↑a.length:Int):Int).toNat (0:Int)) a) b (A9 (i-(min d g)))) c).bind λj=>
 (Er N j (min d g)).bind λk=>
 (ix (upd (Pf (List.replicate ((↑a.length:Int):Int).toNat (0:Int)) a) b (A9 (i-(min d g)))) c).bind λp=>
 (ix (upd (Pf (List.replicate ((↑a.length:Int):Int).toNat (0:Int)) a) b (A9 (i-(min d g)))) c).bind λq=>
 Ku N (upd (upd (Pf (List.replicate ((↑a.length:Int):Int).toNat (0:Int)) a) b (A9 (i-(min d g)))) c k)) (
 Ku N (Pf (List.replicate ((↑a.length:Int):Int).toNat (0:Int)) a))
def GF (N:Nat) (c:Int) (a:Int→(List (List Int))→Option (List (List Int))) (b:List (List Int)):Option (List (List Int)):=
 a (A9 (c+1)) b
def CV (N:Nat) (p0_w:AL):Nat→Int→(List (List Int))→Option (List (List Int))
 |0,_,_=>none
 |o+1,d,c=>
 cond (decide (d<(↑p0_w.in_.Aq.length:Int))) (
 (ix p0_w.in_.Aq d).bind λa=>
 (Gb N a.Ar (↑p0_w.b.A.length:Int)).bind λg=>
 (cond g ((Gb N a.D (↑p0_w.b.I.length:Int)).bind λi=>
 some i) (some false)).bind λj=>
 (cond j ((Gb N a.B (↑p0_w.b.I.length:Int)).bind λk=>
 some k) (some false)).bind λl=>
 cond l (
 (ix c a.Ar).bind λq=>
 (ix c a.Ar).bind λm=>
 (Lq N m a.D a.B a.Bb).bind λn=>
 (ix c a.Ar).bind λs=>
 (ix c a.Ar).bind λp=>
 GF N d (CV N p0_w o) (upd c a.Ar n)) (
 GF N d (CV N p0_w o) c)) (
 some c)
def Ea (N:Nat) (p0_w:AL):Option (List (List Int)):=
 CV N p0_w N 0 p0_w.s.E
def IK (N:Nat) (a:Int):Option Int:=
 some a
def Gt (N:Nat) (a:(List Int)) (c:Int→Option Int):Nat→Int→Int→Option Int
 |0,_,_=>none
 |j+1,i,b=>
 cond (decide (b<(↑a.length:Int))) (
 (ix a b).bind λd=>
 (Er N i d).bind λg=>
 Gt N a c j g (A9 (b+1))) (
 c i)
def Cr (N:Nat) (a:(List Int)):Option Int:=
 Gt N a (IK N) N 0 0
def C2 (N:Nat) (p0_w:AL) (b:Int→Option ((List (List Int))×(List Int)×(List AI))):Nat→Int→Int→Option ((List (List Int))×(List Int)×(List AI))
 |0,_,_=>none
 |i+1,c,a=>
 cond (decide (a<(↑p0_w.s.H.length:Int))) (
 (ix p0_w.s.H a).bind λd=>
 (Cr N d.K).bind λg=>
 C2 N p0_w b i (A9 (c+g)) (A9 (a+1))) (
 b c)
def EO (N:Nat) (p0_w:AL) (k:Int) (l:Int) (d:Int) (i:List AI) (g:List (List Int)) (c:List Int) (m:Int→Int→(List AI)→(List (List Int))→(List Int)→Option ((List (List Int))×(List Int)×(List AI))) (a:Int):Option ((List (List Int))×(List Int)×(List AI)):=
 cond (decide (a≤0)) (
 m k l i g c) (
 (ix g d).bind λp=>
 (ix g d).bind λj=>
 (ix j 0).bind λn=>
 (ix j 0).bind λq=>
 (ix c 0).bind λt=>
 (ix c 0).bind λo=>
 (ix c 0).bind λu=>
 (ix c 0).bind λv=>
 chk (KR (↑p0_w.b.I.length:Int) (↑p0_w.b.I.length:Int) 8) <|
 (ix (List.replicate ((↑p0_w.b.I.length:Int):Int).toNat (0:Int)) 0).bind λw=>
 (ix (List.replicate ((↑p0_w.b.I.length:Int):Int).toNat (0:Int)) 0).bind λx=>
 chk (I2 (i.length+([(⟨p0_w.s.C,(-1),d,(-4),(upd (List.replicate ((↑p0_w.b.I.length:Int):Int).toNat (0:Int)) 0 a)⟩:AI)]:List AI).length) 56) <|
 m (A9 (k+a)) (A9 (l+a)) (i++([(⟨p0_w.s.C,(-1),d,(-4),(upd (List.replicate ((↑p0_w.b.I.length:Int):Int).toNat (0:Int)) 0 a)⟩:AI)]:List AI)) (upd g d (upd j 0 (A9 (n+a)))) (upd c 0 (A9 (o+a))))
def EQ (N:Nat) (a:Int) (j:Int→Int→Int→(List AI)→(List (List Int))→(List Int)→Option ((List (List Int))×(List Int)×(List AI))) (b:Int) (c:Int) (d:List AI) (g:List (List Int)) (i:List Int):Option ((List (List Int))×(List Int)×(List AI)):=
 j b c (A9 (a+1)) d g i
def CB (N:Nat) (p0_w:AL):Nat→Int→Int→Int→(List AI)→(List (List Int))→(List Int)→Option ((List (List Int))×(List Int)×(List AI))
 |0,_,_,_,_,_,_=>none
 |l+1,c,d,a,g,i,j=>
 cond (decide (a<(↑p0_w.b.A.length:Int))) (
 cond (decide (a<(↑p0_w.in_.Aa.length:Int))) (
 (ix p0_w.in_.Aa a).bind λk=>
 EO N p0_w c d a g i j (EQ N a (CB N p0_w l)) (min (min k (A9 (1125899906842624-c))) (A9 (1152921504606846976-d)))) (
 EO N p0_w c d a g i j (EQ N a (CB N p0_w l)) 0)) (
 some (i,j,g))
def C4 (N:Nat) (p0_w:AL) (a:Int):Option ((List (List Int))×(List Int)×(List AI)):=
 (Cr N p0_w.s.N).bind λb=>
 CB N p0_w N a b 0 p0_w.moves p0_w.s.E p0_w.s.N
def DO (N:Nat) (p0_w:AL) (a:Int):Option ((List (List Int))×(List Int)×(List AI)):=
 C2 N p0_w (C4 N p0_w) N a 0
def C3 (N:Nat) (p0_w:AL) (b:Int→Option ((List (List Int))×(List Int)×(List AI))):Nat→Int→Int→Option ((List (List Int))×(List Int)×(List AI))
 |0,_,_=>none
 |i+1,g,a=>
 cond (decide (a<(↑p0_w.s.E.length:Int))) (
 (ix p0_w.s.E a).bind λj=>
 (ix p0_w.s.E a).bind λc=>
 (Cr N c).bind λd=>
 C3 N p0_w b i (A9 (g+d)) (A9 (a+1))) (
 b g)
def Ht (N:Nat) (p0_w:AL):Option ((List (List Int))×(List Int)×(List AI)):=
 C3 N p0_w (DO N p0_w) N 0 0
def Hm (N:Nat) (a:List Int):Option (List Int):=
 some a
def Fj (N:Nat) (c:(List Int)) (d:(List Int)→Option (List Int)):Nat→Int→(List Int)→Option (List Int)
 |0,_,_=>none
 |k+1,a,b=>
 cond (decide (a<(↑c.length:Int))) (
 (ix c a).bind λg=>
 (ix b a).bind λl=>
 (ix b a).bind λi=>
 (Er N i g).bind λj=>
 (ix b a).bind λm=>
 (ix b a).bind λn=>
 Fj N c d k (A9 (a+1)) (upd b a j)) (
 d b)
def Gg (N:Nat) (a:(List Int)) (b:(List Int)):Option (List Int):=
 chk (KR (max (↑a.length:Int) (↑b.length:Int)) (max (↑a.length:Int) (↑b.length:Int)) 8) <|
 Fj N b (Hm N) N 0 (Pf (List.replicate ((max (↑a.length:Int) (↑b.length:Int)):Int).toNat (0:Int)) a)
def Jc (N:Nat) (a:Int) (b:(List AO)→Int→(List (List Int))→Option ((List (List Int))×(List AO))) (c:List AO) (d:List (List Int)):Option ((List (List Int))×(List AO)):=
 b c (A9 (a+1)) d
def Fi (N:Nat) (d:(List AO)) (b:Int) (n:Int) (k:(List AO)→(List (List Int))→Option ((List (List Int))×(List AO))):Nat→(List AO)→Int→(List (List Int))→Option ((List (List Int))×(List AO))
 |0,_,_,_=>none
 |o+1,g,i,c=>
 cond (decide (i<(↑d.length:Int))) (
 (ix d i).bind λa=>
 cond (((decide (a.Ao≤b))&&(decide (0≤a.B)))&&(decide (a.B<n))) (
 (ix c a.B).bind λp=>
 (ix c a.B).bind λl=>
 (Gg N l a.K).bind λm=>
 (ix c a.B).bind λq=>
 (ix c a.B).bind λs=>
 Jc N i (Fi N d b n k o) g (upd c a.B m)) (
 (Cg N a.K).bind λj=>
 chk (I2 (g.length+([({ a with K:=j}:AO)]:List AO).length) 40) <|
 Jc N i (Fi N d b n k o) (g++([({ a with K:=j}:AO)]:List AO)) c)) (
 k g c)
def H1 (N:Nat) (a:List AO) (b:List (List Int)):Option ((List (List Int))×(List AO)):=
 some (b,a)
def Gf (N:Nat) (b:(List AO)) (a:Int) (d:Int) (c:List (List Int)):Option ((List (List Int))×(List AO)):=
 Fi N b a d (H1 N) N ([]:List AO) 0 c
def Ge (N:Nat) (g:Int) (d:Int) (c:(List (List Int))→Option ((List (List Int))×(List AO))):Nat→Int→(List (List Int))→Option ((List (List Int))×(List AO))
 |0,_,_=>none
 |i+1,a,b=>
 cond (decide (a<(↑(List.replicate (g:Int).toNat ([]:(List Int))).length:Int))) (
 chk (KR d d 8) <|
 (ix b a).bind λj=>
 (ix b a).bind λk=>
 Ge N g d c i (A9 (a+1)) (upd b a (List.replicate (d:Int).toNat (0:Int)))) (
 c b)
def Lo (N:Nat) (d:(List AO)) (c:Int) (a:Int) (b:Int):Option ((List (List Int))×(List AO)):=
 (Hp N a 0 64).bind λg=>
 (Hp N b 0 16).bind λi=>
 chk (KR g g 24) <|
 Ge N g i (Gf N d c g) N 0 (List.replicate (g:Int).toNat ([]:(List Int)))
def Ik (N:Nat) (a:AQ) (b:Bool):Option AQ:=
 some ({ a with Am:=b}:AQ)
def HG (N:Nat) (b:BL) (a:AQ) (c:Int):Option AQ:=
 cond (decide (b.G≠3)) (
 some a) (
 cond (decide (b.Ax≤c)) (
 Ik N a true) (
 cond (decide (c≤b.Ay)) (
 Ik N a false) (
 Ik N a a.Am)))
def Eg (N:Nat) (a:Int) (c:Int→(List AQ)→Option ((List (List Int))×(List AO)×(List AQ)×(List Int))) (b:List AQ):Option ((List (List Int))×(List AO)×(List AQ)×(List Int)):=
 c (A9 (a+1)) b
def CL (N:Nat) (p0_w:AL) (j:(List (List Int))×(List AO)) (i:List (List Int)) (d:List Int):Nat→Int→(List AQ)→Option ((List (List Int))×(List AO)×(List AQ)×(List Int))
 |0,_,_=>none
 |n+1,a,c=>
 cond (decide (a<(↑p0_w.b.F.length:Int))) (
 (ix p0_w.b.F a).bind λg=>
 cond (decide (g.G=3)) (
 (ix c a).bind λo=>
 (ix c a).bind λk=>
 (ix d g.D).bind λp=>
 (ix d g.D).bind λl=>
 (HG N g k l).bind λm=>
 (ix c a).bind λq=>
 (ix c a).bind λs=>
 Eg N a (CL N p0_w j i d n) (upd c a m)) (
 Eg N a (CL N p0_w j i d n) c)) (
 some (i,j.2,c,d))
def Cm (N:Nat) (p0_w:AL) (c:(List (List Int))×(List AO)) (a:List (List Int)) (b:List Int):Option ((List (List Int))×(List AO)×(List AQ)×(List Int)):=
 CL N p0_w c a b N 0 p0_w.s.O
def CZ (N:Nat) (p0_w:AL) (i:(List (List Int))×(List AO)) (j:(List (List Int))→(List Int)→Option ((List (List Int))×(List AO)×(List AQ)×(List Int))):Nat→Int→(List (List Int))→(List Int)→Option ((List (List Int))×(List AO)×(List AQ)×(List Int))
 |0,_,_,_=>none
 |w+1,a,c,d=>
 cond (decide (a<(↑p0_w.b.A.length:Int))) (
 (ix c a).bind λo=>
 (ix c a).bind λk=>
 (ix i.1 a).bind λp=>
 (ix i.1 a).bind λl=>
 (Gg N k l).bind λg=>
 (ix c a).bind λq=>
 (ix c a).bind λs=>
 (ix (upd c a g) a).bind λt=>
 (ix (upd c a g) a).bind λm=>
 (Cr N m).bind λn=>
 (ix d a).bind λu=>
 (ix d a).bind λv=>
 CZ N p0_w i j w (A9 (a+1)) (upd c a g) (upd d a n)) (
 j c d)
def El (N:Nat) (p0_w:AL):Option ((List (List Int))×(List AO)×(List AQ)×(List Int)):=
 (Lo N p0_w.s.H p0_w.s.C (↑p0_w.b.A.length:Int) (↑p0_w.b.I.length:Int)).bind λa=>
 CZ N p0_w a (Cm N p0_w a) N 0 p0_w.s.E p0_w.peaks
def HS (N:Nat) (a:List Int):Option (List Int):=
 some a
def FY (N:Nat) (a:(List Int)) (d:(List Int)→Option (List Int)):Nat→Int→(List Int)→Option (List Int)
 |0,_,_=>none
 |j+1,b,c=>
 cond (decide (b<(↑a.length:Int))) (
 (ix a b).bind λg=>
 (ix c b).bind λk=>
 (ix c b).bind λi=>
 (ix c b).bind λl=>
 (ix c b).bind λm=>
 FY N a d j (A9 (b+1)) (upd c b (A9 (i-g)))) (
 d c)
def H2 (N:Nat) (a:(List Int)) (b:(List Int)):Option (List Int):=
 chk (KR (↑a.length:Int) (↑a.length:Int) 8) <|
 FY N b (HS N) N 0 (Pf (List.replicate ((↑a.length:Int):Int).toNat (0:Int)) a)
def Ip (N:Nat) (a:(List Int)) (b:List Int):Option ((List Int)×(List Int)):=
 (H2 N a b).bind λc=>
 some (b,c)
def Lr (N:Nat) (b:(List Int)) (a:Int) (c:Int):Option ((List Int)×(List Int)):=
 chk (KR (↑b.length:Int) (↑b.length:Int) 8) <|
 (KZ N b a).bind λd=>
 cond (decide (0<(min c d))) (
 (ix (List.replicate ((↑b.length:Int):Int).toNat (0:Int)) a).bind λg=>
 (ix (List.replicate ((↑b.length:Int):Int).toNat (0:Int)) a).bind λi=>
 Ip N b (upd (List.replicate ((↑b.length:Int):Int).toNat (0:Int)) a (min c d))) (
 Ip N b (List.replicate ((↑b.length:Int):Int).toNat (0:Int)))
def DN (N:Nat) (b:HV) (a:(List Int)):Option ((List Int)×(List Int)):=
 (Lr N a b.Bg b.Bb).bind λc=>
 some (c.1,c.2)
def Cu (N:Nat) (a:List AD):Option (List AD):=
 some a
def Ej (N:Nat) (a:Int) (b:(List AD)→Int→Option (List AD)) (c:List AD):Option (List AD):=
 b c (A9 (a+1))
def B5 (N:Nat) (p0_w:AL) (a:Int) (g:(List AD)→Option (List AD)):Nat→(List AD)→Int→Option (List AD)
 |0,_,_=>none
 |j+1,i,d=>
 cond (decide (d<(↑p0_w.in_.Z.length:Int))) (
 (ix p0_w.in_.Z d).bind λc=>
 (cond (decide (c.Ar≠a)) (some true) ((Gb N c.Bg (↑p0_w.b.I.length:Int)).bind λk=>
 some (!k))).bind λl=>
 cond (l||(decide (c.Bb≤0))) (
 Ej N d (B5 N p0_w a g j) i) (
 (cond (decide (c.B≠(-1))) ((Gb N c.B (↑p0_w.b.A.length:Int)).bind λm=>
 (cond (!m) (some true) ((ix p0_w.b.A c.B).bind λn=>
 (ix p0_w.b.A a).bind λo=>
 some (decide (n.Ac≠o.Ac)))).bind λp=>
 some p) (some false)).bind λq=>
 cond q (
 Ej N d (B5 N p0_w a g j) i) (
 chk (I2 (i.length+1) 32) <|
 Ej N d (B5 N p0_w a g j) (i++([(⟨c.B,0,(-3),(λx=>DN N c x)⟩:AD)]:List AD))))) (
 g i)
def HR (N:Nat) (p0_w:AL) (a:Int):Option (List AD):=
 B5 N p0_w a (Cu N) N ([]:List AD) 0
def HT (N:Nat) (a:Int) (b:Int):Option (Int×Int):=
 some ((IntKind.wrap .u64 ((IntKind.wrap .u64 ((IntKind.wrap .u64 ((EJ .u64 a 32)*(EJ .u64 b 32)))+(EJ .u64 (IntKind.wrap .u64 ((IntKind.wrap .u64 ((EJ .u64 a 32)*(FJ .and .u64 b 4294967295)))+(EJ .u64 (IntKind.wrap .u64 ((FJ .and .u64 a 4294967295)*(FJ .and .u64 b 4294967295))) 32))) 32)))+(EJ .u64 (IntKind.wrap .u64 ((FJ .and .u64 (IntKind.wrap .u64 ((IntKind.wrap .u64 ((EJ .u64 a 32)*(FJ .and .u64 b 4294967295)))+(EJ .u64 (IntKind.wrap .u64 ((FJ .and .u64 a 4294967295)*(FJ .and .u64 b 4294967295))) 32))) 4294967295)+(IntKind.wrap .u64 ((FJ .and .u64 a 4294967295)*(EJ .u64 b 32))))) 32))),(IntKind.wrap .u64 (a*b)))
def GJ (N:Nat) (a:Int) (b:Int):Option Int:=
 (VD NG (IntKind.wrap .u8 a)).bind λc=>
 some (A9 (b+(A9 c)))
def GK (N:Nat) (a:Int) (b:Int):Option Int:=
 cond (decide (256≤a)) (
 GJ N (EJ .u64 a 8) (A9 (b+8))) (
 GJ N a b)
def GL (N:Nat) (a:Int) (b:Int):Option Int:=
 cond (decide (65536≤a)) (
 GK N (EJ .u64 a 16) (A9 (b+16))) (
 GK N a b)
def IT (N:Nat) (a:Int):Option Int:=
 cond (decide (4294967296≤a)) (
 GL N (EJ .u64 a 32) 32) (
 GL N a 0)
def Eo (N:Nat) (a:Int):Option Int:=
 (IT N a).bind λb=>
 some (A9 (64-b))
def DX (N:Nat) (b:Int) (a:Int) (d:Nat) (j:Nat) (g:Int→Option (Int×Int)):Nat→Int→Int→Option (Int×Int)
 |0,_,_=>none
 |k+1,i,c=>
 cond ((decide (4294967296≤c))||(decide ((IntKind.wrap .u64 ((IntKind.wrap .u64 (4294967296*i))+(FJ .and .u64 (Dh .u64 b j) 4294967295)))<(IntKind.wrap .u64 (c*(FJ .and .u64 (Dh .u64 a d) 4294967295)))))) (
 cond (decide (4294967296≤(IntKind.wrap .u64 (i+(EJ .u64 (Dh .u64 a d) 32))))) (
 g (IntKind.wrap .u64 (c-1))) (
 DX N b a d j g k (IntKind.wrap .u64 (i+(EJ .u64 (Dh .u64 a d) 32))) (IntKind.wrap .u64 (c-1)))) (
 g c)
def Ep (N:Nat) (c:Int) (a:Int) (b:Int) (n:Int) (d:Nat) (k:Nat) (l:Nat) (g:Nat) (i:Int) (j:Int):Option (Int×Int):=
 (QK (IntKind.wrap .u64 n)).bind λm=>
 some ((IntKind.wrap .u64 ((IntKind.wrap .u64 (i*4294967296))+j)),(EJ .u64 (IntKind.wrap .u64 ((IntKind.wrap .u64 ((IntKind.wrap .u64 ((IntKind.wrap .u64 ((IntKind.wrap .u64 ((IntKind.wrap .u64 ((FJ .or .u64 (Dh .u64 c k) (EJ .u64 a l))*4294967296))+(EJ .u64 (Dh .u64 a g) 32)))-(IntKind.wrap .u64 (i*(Dh .u64 b d)))))*4294967296))+(FJ .and .u64 (Dh .u64 a g) 4294967295)))-(IntKind.wrap .u64 (j*(Dh .u64 b d))))) m))
def DY (N:Nat) (c:Int) (a:Int) (b:Int) (m:Int) (d:Nat) (i:Nat) (j:Nat) (g:Nat) (k:Int):Option (Int×Int):=
 (SO .u64 (IntKind.wrap .u64 ((IntKind.wrap .u64 ((IntKind.wrap .u64 ((FJ .or .u64 (Dh .u64 c i) (EJ .u64 a j))*4294967296))+(EJ .u64 (Dh .u64 a g) 32)))-(IntKind.wrap .u64 (k*(Dh .u64 b d))))) (EJ .u64 (Dh .u64 b d) 32)).bind λl=>
 DX N a b d g (Ep N c a b m d i j g k) N (IntKind.wrap .u64 ((IntKind.wrap .u64 ((IntKind.wrap .u64 ((IntKind.wrap .u64 ((FJ .or .u64 (Dh .u64 c i) (EJ .u64 a j))*4294967296))+(EJ .u64 (Dh .u64 a g) 32)))-(IntKind.wrap .u64 (k*(Dh .u64 b d)))))-(IntKind.wrap .u64 (l*(EJ .u64 (Dh .u64 b d) 32))))) l
def DC (N:Nat) (b:Int) (a:Int) (d:Nat) (j:Nat) (g:Int→Option (Int×Int)):Nat→Int→Int→Option (Int×Int)
 |0,_,_=>none
 |k+1,c,i=>
 cond ((decide (4294967296≤c))||(decide ((IntKind.wrap .u64 ((IntKind.wrap .u64 (4294967296*i))+(EJ .u64 (Dh .u64 b j) 32)))<(IntKind.wrap .u64 (c*(FJ .and .u64 (Dh .u64 a d) 4294967295)))))) (
 cond (decide (4294967296≤(IntKind.wrap .u64 (i+(EJ .u64 (Dh .u64 a d) 32))))) (
 g (IntKind.wrap .u64 (c-1))) (
 DC N b a d j g k (IntKind.wrap .u64 (c-1)) (IntKind.wrap .u64 (i+(EJ .u64 (Dh .u64 a d) 32))))) (
 g c)
def FZ (N:Nat) (c:Int) (b:Int) (a:Int):Option (Int×Int):=
 cond (decide (a=0)) (
 none) (
 cond (decide (a≤c)) (
 none) (
 cond (decide (c=0)) (
 (SO .u64 b a).bind λm=>
 (Uq b a).bind λn=>
 some (m,n)) (
 (Eo N a).bind λj=>
 (QK (IntKind.wrap .u64 j)).bind λd=>
 (QK (IntKind.wrap .u64 j)).bind λg=>
 (QK (IntKind.wrap .u64 (64-(IntKind.wrap .u64 j)))).bind λi=>
 (QK (IntKind.wrap .u64 j)).bind λk=>
 (SO .u64 (FJ .or .u64 (Dh .u64 c g) (EJ .u64 b i)) (EJ .u64 (Dh .u64 a d) 32)).bind λl=>
 DC N b a d k (DY N c b a j d g i k) N l (IntKind.wrap .u64 ((FJ .or .u64 (Dh .u64 c g) (EJ .u64 b i))-(IntKind.wrap .u64 (l*(EJ .u64 (Dh .u64 a d) 32))))))))
def Fk (N:Nat) (c:Int) (b:Int) (a:Int):Option (Int×Int×Bool):=
 cond ((((((decide (c<0))||(decide (1125899906842624<c)))||(decide (b<0)))||(decide (1125899906842624<b)))||(decide (a<1)))||(decide (1125899906842624<a))) (
 some (0,0,false)) (
 (HT N (IntKind.wrap .u64 c) (IntKind.wrap .u64 b)).bind λg=>
 cond (decide ((IntKind.wrap .u64 a)≤g.1)) (
 some (0,0,false)) (
 (FZ N g.1 g.2 (IntKind.wrap .u64 a)).bind λd=>
 cond (decide (1125899906842624<d.1)) (
 some (0,0,false)) (
 some ((A9 d.1),(A9 d.2),true))))
def Hn (N:Nat) (c:Int) (a:Int) (b:Int):Option Int:=
 (Fk N c a b).bind λd=>
 cond (!d.2.2) (
 some 0) (
 some d.1)
def Ls (N:Nat) (b:BL) (a:Int) (c:Int):Option Int:=
 cond (decide (b.B=(-1))) (
 some a) (
 (Hn N c b.As b.An).bind λd=>
 (GM N a d).bind λg=>
 some (max 0 g))
def G8 (N:Nat):Option Bool:=
 some true
def EL (N:Nat) (a:(List BU)) (d:Option Bool):Nat→Int→Option Bool
 |0,_=>none
 |l+1,c=>
 cond (decide (c<(↑a.length:Int))) (
 (ix a c).bind λb=>
 cond ((((decide (b.R<0))||(decide (1125899906842624<b.R)))||(decide (b.W<0)))||(decide (1125899906842624<b.W))) (
 some false) (
 (cond (decide (0<c)) ((ix a (A9 (c-1))).bind λg=>
 (cond (decide (b.R≤g.R)) (some true) ((ix a (A9 (c-1))).bind λi=>
 some (decide (b.W<i.W)))).bind λj=>
 some j) (some false)).bind λk=>
 cond k (
 some false) (
 EL N a d l (A9 (c+1))))) (
 d)
def EM (N:Nat) (a:(List BU)):Option Bool:=
 cond ((decide ((↑a.length:Int)<1))||(decide (32<(↑a.length:Int)))) (
 some false) (
 EL N a (G8 N) N 0)
def Ij (N:Nat) (a:Int):Option Int:=
 some a
def GI (N:Nat) (b:(Int→Option Bool)) (d:Int→Option Int):Nat→Int→Int→Option Int
 |0,_,_=>none
 |i+1,a,c=>
 cond (decide (a<c)) (
 (b (A9 (EJ .u64 (IntKind.wrap .u64 (A9 (a+c))) 1))).bind λg=>
 cond (!g) (
 GI N b d i (A9 ((A9 (EJ .u64 (IntKind.wrap .u64 (A9 (a+c))) 1))+1)) c) (
 GI N b d i a (A9 (EJ .u64 (IntKind.wrap .u64 (A9 (a+c))) 1)))) (
 d a)
def LY (N:Nat) (a:Int) (b:(Int→Option Bool)):Option Int:=
 GI N b (Ij N) N 0 a
def IL (N:Nat) (b:(List BU)) (c2_:Int) (a:Int):Option Bool:=
 (ix b a).bind λc=>
 some (decide (c2_<c.R))
def Ic (N:Nat) (a:(List BU)) (d:Int):Option (Int×Bool):=
 (LY N (↑a.length:Int) (λx=>IL N a d x)).bind λb=>
 cond (decide (b=0)) (
 (ix a 0).bind λi=>
 some (i.W,false)) (
 (ix a (A9 (b-1))).bind λc=>
 cond (decide (b=(↑a.length:Int))) (
 some (c.W,false)) (
 (ix a b).bind λj=>
 (ix a b).bind λk=>
 (Fk N (A9 (d-c.R)) (A9 (j.W-c.W)) (A9 (k.R-c.R))).bind λg=>
 some ((A9 (c.W+g.1)),(decide (0<g.2.1)))))
def Mj (N:Nat) (a:(List BU)) (b:Int):Option Int:=
 (EM N a).bind λc=>
 cond (!c) (
 some 0) (
 (Ic N a b).bind λd=>
 some d.1)
def Ir (N:Nat):Option Int:=
 some 0
def Iq (N:Nat) (a:BL) (b:Int):Option Int:=
 (GM N b a.Bd).bind λd=>
 (Hn N (max 0 d) a.Y a.T).bind λc=>
 some c
def Ky (N:Nat) (a:Bool) (b:Option Int):Option Int:=
 cond (!a) (
 some 0) (
 b)
def Kx (N:Nat) (c:BL) (a:Bool) (b:Int) (d:Option Int):Option Int:=
 cond a (
 (Hn N b c.Y c.T).bind λg=>
 some g) (
 d)
def Kw (N:Nat) (b:BL) (a:Int):Option Int:=
 (Hn N b.Y a b.U).bind λc=>
 some c
def Kv (N:Nat) (a:BL) (c:Int) (g:(List BU)) (b:Int) (d:Int):Option Int:=
 (Ls N a b d).bind λi=>
 (Mj N g i).bind λj=>
 (Hn N j c a.U).bind λk=>
 (Er N k a.Bc).bind λl=>
 some l
def Lt (N:Nat) (a:BL) (d:Int) (c:Bool) (i:(List BU)) (b:Int) (g:Int):Option Int:=
 cond (decide (a.G=0)) (
 Kv N a d i b g) (
 cond (decide (a.G=2)) (
 Kw N a d) (
 cond (decide (a.G=3)) (
 Kx N a c b (Ir N)) (
 cond (decide (a.G=5)) (
 Ky N c (Iq N a b)) (
 cond (decide (a.G=1)) (
 Iq N a b) (
 Ir N)))))
def LN (N:Nat) (b:BL) (c:AQ) (a:Int) (d:Int):Option Int:=
 (Lt N b c.V c.Am b.Aw a d).bind λg=>
 some g
def Ga (N:Nat) (a:Int):Option Int:=
 some a
def Gs (N:Nat):Option Bool:=
 some true
def EH (N:Nat) (a:(List Int)) (c:Option Bool):Nat→Int→Int→Option Bool
 |0,_,_=>none
 |i+1,g,d=>
 cond (decide (d<(↑a.length:Int))) (
 (ix a d).bind λb=>
 cond ((decide (b<0))||(decide ((A9 (1125899906842624-g))<b))) (
 some false) (
 EH N a c i (A9 (g+b)) (A9 (d+1)))) (
 c)
def IS (N:Nat) (a:(List Int)):Option Bool:=
 EH N a (Gs N) N 0 0
def FC (N:Nat) (c:Int) (a:(List Int)) (n:Int) (k:Int→(List Int)→(List Int)→(List Int)→Option ((List Int)×Bool)):Nat→Int→Int→(List Int)→(List Int)→(List Int)→Option ((List Int)×Bool)
 |0,_,_,_,_,_=>none
 |v+1,l,b,g,i,j=>
 cond (decide (b<(↑a.length:Int))) (
 (ix a b).bind λm=>
 (Fk N c m n).bind λd=>
 (ix j b).bind λo=>
 (ix j b).bind λp=>
 (ix i b).bind λq=>
 (ix i b).bind λs=>
 (ix g b).bind λt=>
 (ix g b).bind λu=>
 FC N c a n k v (A9 (l-d.1)) (A9 (b+1)) (upd g b b) (upd i b d.2.1) (upd j b d.1)) (
 k l g i j)
def FB (N:Nat) (c:List Int) (g:(List Int)→Option ((List Int)×Bool)):Nat→Int→(List Int)→Option ((List Int)×Bool)
 |0,_,_=>none
 |m+1,d,a=>
 cond (decide (d<(↑c.length:Int))) (
 (ix c d).bind λb=>
 (ix a b).bind λj=>
 (ix a b).bind λi=>
 (ix a b).bind λk=>
 (ix a b).bind λl=>
 FB N c g m (A9 (d+1)) (upd a b (A9 (i+1)))) (
 g a)
def G7 (N:Nat) (a:List Int):Option ((List Int)×Bool):=
 some (a,true)
def FE (N:Nat) (c:Int) (d:List Int) (g:List Int) (i:List Int):Option ((List Int)×Bool):=
 (Sw d g).bind λa=>
 (wZ a c).bind λb=>
 FB N b (G7 N) N 0 i
def FG (N:Nat) (b:Int) (a:(List Int)) (c:Int):Option ((List Int)×Bool):=
 cond ((decide (b<0))||(decide (c<b))) (
 some (([]:List Int),false)) (
 chk (KR (↑a.length:Int) (↑a.length:Int) 8) <|
 cond (decide (c=0)) (
 some ((List.replicate ((↑a.length:Int):Int).toNat (0:Int)),true)) (
 chk (KR (↑a.length:Int) (↑a.length:Int) 8) <|
 chk (KR (↑a.length:Int) (↑a.length:Int) 8) <|
 FC N b a c (FE N) N b 0 (List.replicate ((↑a.length:Int):Int).toNat (0:Int)) (List.replicate ((↑a.length:Int):Int).toNat (0:Int)) (List.replicate ((↑a.length:Int):Int).toNat (0:Int))))
def FD (N:Nat) (a:(List Int)) (g:Int→Option ((List Int)×Bool)):Nat→Int→Int→Option ((List Int)×Bool)
 |0,_,_=>none
 |i+1,b,c=>
 cond (decide (c<(↑a.length:Int))) (
 (ix a c).bind λd=>
 cond ((decide (d<0))||(decide ((A9 (1125899906842624-b))<d))) (
 some (([]:List Int),false)) (
 FD N a g i (A9 (b+d)) (A9 (c+1)))) (
 g b)
def KE (N:Nat) (b:Int) (a:(List Int)):Option ((List Int)×Bool):=
 cond (decide (64<(↑a.length:Int))) (
 some (([]:List Int),false)) (
 FD N a (FG N b a) N 0 0)
def HN (N:Nat) (a:(List Int)) (b:List Int):Option ((List Int)×(List Int)):=
 (H2 N a b).bind λc=>
 some (b,c)
def Jd (N:Nat) (a:(List Int)→Option ((List Int)×(List Int))) (b:List Int):Option ((List Int)×(List Int)):=
 a b
def Lp (N:Nat) (a:(List Int)) (b:Int):Option ((List Int)×(List Int)):=
 chk (KR (↑a.length:Int) (↑a.length:Int) 8) <|
 (cond ((decide (0<b))&&(decide ((↑a.length:Int)≤64))) ((IS N a).bind λd=>
 some d) (some false)).bind λg=>
 cond g (
 (Cr N a).bind λi=>
 (KE N (min b i) a).bind λc=>
 cond c.2 (
 Jd N (HN N a) (Pf (List.replicate ((↑a.length:Int):Int).toNat (0:Int)) c.1)) (
 Jd N (HN N a) (List.replicate ((↑a.length:Int):Int).toNat (0:Int)))) (
 HN N a (List.replicate ((↑a.length:Int):Int).toNat (0:Int)))
def AM (N:Nat) (b:Int) (a:(List Int)):Option ((List Int)×(List Int)):=
 (Lp N a b).bind λc=>
 some (c.1,c.2)
def Kg (N:Nat) (c:Int) (a:Int) (b:Int):Option Int:=
 (Fk N c a b).bind λd=>
 cond (!d.2.2) (
 some 0) (
 some d.1)
def LK (N:Nat) (a:BL) (b:Int) (c:Int):Option Int:=
 cond (decide (a.G≠4)) (
 some 0) (
 (Kg N b a.Y a.T).bind λd=>
 (Kg N c a.As a.An).bind λg=>
 some (A9 (d-g)))
def CN (N:Nat) (a:List AD):Option (List AD):=
 some a
def Ek (N:Nat) (p0_w:AL) (c:Int) (m:List AD) (b:Int) (a:BL) (g:(List AD)→Option (List AD)) (i:Int):Option (List AD):=
 (ix p0_w.s.O b).bind λn=>
 (ix p0_w.s.O b).bind λj=>
 (ix p0_w.peaks c).bind λo=>
 (ix p0_w.peaks c).bind λk=>
 (LN N a j k i).bind λl=>
 (Ga N l).bind λd=>
 chk (I2 (m.length+([(⟨a.B,a.Q,b,(λx=>AM N d x)⟩:AD)]:List AD).length) 32) <|
 g (m++([(⟨a.B,a.Q,b,(λx=>AM N d x)⟩:AD)]:List AD))
def Cx (N:Nat) (a:Int) (b:(List AD)→Int→Option (List AD)) (c:List AD):Option (List AD):=
 b c (A9 (a+1))
def BR (N:Nat) (p0_w:AL) (c:Int) (g:(List AD)→Option (List AD)):Nat→(List AD)→Int→Option (List AD)
 |0,_,_=>none
 |l+1,i,d=>
 cond (decide (d<(↑p0_w.b.F.length:Int))) (
 (ix p0_w.b.F d).bind λa=>
 cond ((decide (a.D=c))&&(decide (a.G≠4))) (
 cond (decide (a.B≠(-1))) (
 (ix p0_w.peaks a.B).bind λA=>
 (ix p0_w.peaks a.B).bind λu=>
 Ek N p0_w c i d a (Cx N d (BR N p0_w c g l)) u) (
 Ek N p0_w c i d a (Cx N d (BR N p0_w c g l)) 0)) (
 cond (decide (a.D=c)) (
 (ix p0_w.peaks c).bind λv=>
 (ix p0_w.peaks c).bind λm=>
 (ix p0_w.peaks a.B).bind λw=>
 (ix p0_w.peaks a.B).bind λn=>
 (LK N a m n).bind λo=>
 (Ga N o).bind λj=>
 chk (I2 (i.length+([(⟨a.B,a.Q,d,(λx=>AM N j x)⟩:AD)]:List AD).length) 32) <|
 Cx N d (BR N p0_w c g l) (i++([(⟨a.B,a.Q,d,(λx=>AM N j x)⟩:AD)]:List AD))) (
 cond ((decide (a.B=c))&&(decide (a.G=4))) (
 (ix p0_w.peaks a.D).bind λy=>
 (ix p0_w.peaks a.D).bind λp=>
 (ix p0_w.peaks c).bind λz=>
 (ix p0_w.peaks c).bind λq=>
 (LK N a p q).bind λs=>
 (GM N 0 s).bind λt=>
 (Ga N t).bind λk=>
 chk (I2 (i.length+([(⟨a.D,a.Q,d,(λx=>AM N k x)⟩:AD)]:List AD).length) 32) <|
 Cx N d (BR N p0_w c g l) (i++([(⟨a.D,a.Q,d,(λx=>AM N k x)⟩:AD)]:List AD))) (
 Cx N d (BR N p0_w c g l) i)))) (
 g i)
def Gd (N:Nat) (p0_w:AL) (a:Int):Option (List AD):=
 BR N p0_w a (CN N) N ([]:List AD) 0
def CD (N:Nat) (a:List AD):Option (List AD):=
 some a
def CO (N:Nat) (a:Int):Option (List AD):=
 cond (decide (a<0)) (
 none) (
 cond (decide (0<(A9 (a-(A9 (0-0)))))) (
 chk (decide (0<(A9 (a-(A9 (0-0)))))) <|
 chk (I2 ((A9 (a-(A9 (0-0)))):Int).toNat 32) <|
 CD N ([]:List AD)) (
 CD N ([]:List AD)))
def Bu (N:Nat) (a:(List (List AD))) (d:(List AD)→Option (List AD)):Nat→(List AD)→Int→Option (List AD)
 |0,_,_=>none
 |i+1,b,c=>
 cond (decide (c<(↑a.length:Int))) (
 (ix a c).bind λg=>
 chk (I2 (b.length+g.length) 32) <|
 Bu N a d i (b++g) (A9 (c+1))) (
 d b)
def Ca (N:Nat) (a:List AD):Option (List AD):=
 some a
def B8 (N:Nat) (a:(List (List AD))) (c:Int):Option (List AD):=
 (CO N c).bind λb=>
 Bu N a (Ca N) N b 0
def Bv (N:Nat) (a:(List (List AD))) (c:Int→Option (List AD)):Nat→Int→Int→Option (List AD)
 |0,_,_=>none
 |i+1,g,b=>
 cond (decide (b<(↑a.length:Int))) (
 (ix a b).bind λd=>
 cond (decide ((A9 (g+(↑d.length:Int)))<0)) (
 none) (
 Bv N a c i (A9 (g+(↑d.length:Int))) (A9 (b+1)))) (
 c g)
def CH (N:Nat) (a:(List (List AD))):Option (List AD):=
 Bv N a (B8 N a) N 0 0
def D4 (N:Nat):Option Int:=
 some (-1)
def Cy (N:Nat) (a:(List Int)) (b:(Int→Option Bool)) (c:Option Int):Nat→Int→Option Int
 |0,_=>none
 |j+1,d=>
 cond (decide (d<(↑a.length:Int))) (
 (ix a d).bind λg=>
 (b g).bind λi=>
 cond i (
 some d) (
 Cy N a b c j (A9 (d+1)))) (
 c)
def En (N:Nat) (a:(List Int)) (b:(Int→Option Bool)):Option Int:=
 Cy N a b (D4 N) N 0
def FX (N:Nat) (a:(List Int)) (b:(Int→Option Bool)):Option Bool:=
 (En N a b).bind λc=>
 some (decide (0≤c))
def H0 (N:Nat) (a:Int):Option Bool:=
 some (decide (0<a))
def Kt (N:Nat) (c:Int) (b:Int) (a:(List Int)):Option (List AO):=
 (cond (decide (b<0)) (some true) ((FX N a (λx=>H0 N x)).bind λg=>
 some (!g))).bind λi=>
 cond i (
 some ([]:List AO)) (
 (Cg N a).bind λd=>
 chk (I2 (([]:List AO).length+1) 40) <|
 some (([]:List AO)++([(⟨c,b,d⟩:AO)]:List AO)))
def E8 (N:Nat) (p0_w:AL) (a:Int) (b:AD):Option ((List (List Int))×(List Int)×(List AI)×(List AO)):=
 (ix p0_w.s.E a).bind λm=>
 (ix p0_w.s.E a).bind λj=>
 (b.take j).bind λc=>
 (ix p0_w.s.E a).bind λk=>
 (ix p0_w.s.E a).bind λl=>
 (Cr N c.1).bind λg=>
 cond (decide (g≤0)) (
 some ((upd p0_w.s.E a c.2),p0_w.s.L,p0_w.moves,p0_w.sent)) (
 chk (I2 (p0_w.moves.length+([(⟨p0_w.s.C,a,b.to_,b.way,c.1⟩:AI)]:List AI).length) 56) <|
 cond (decide (b.to_=(-1))) (
 (Gg N p0_w.s.L c.1).bind λi=>
 some ((upd p0_w.s.E a c.2),i,(p0_w.moves++([(⟨p0_w.s.C,a,b.to_,b.way,c.1⟩:AI)]:List AI)),p0_w.sent)) (
 (Kt N (A9 ((A9 (p0_w.s.C+1))+b.delay)) b.to_ c.1).bind λd=>
 chk (I2 (p0_w.sent.length+d.length) 40) <|
 some ((upd p0_w.s.E a c.2),p0_w.s.L,(p0_w.moves++([(⟨p0_w.s.C,a,b.to_,b.way,c.1⟩:AI)]:List AI)),(p0_w.sent++d))))
def G6 (N:Nat) (a:Dw) (b:Int×Int×Bool) (c:Int):Option (Int×Int):=
 cond (decide ((A9 (b.2.1+c))<a.T)) (
 some (b.1,(A9 (b.2.1+c)))) (
 some ((A9 (b.1+1)),(A9 ((A9 (b.2.1+c))-a.T))))
def Ib (N:Nat) (a:Dw) (d:Int) (b:Int):Option (Int×Int):=
 (Fk N d a.Y a.T).bind λc=>
 cond (!c.2.2) (
 some (0,0)) (
 cond ((decide (0≤b))&&(decide (b<a.T))) (
 G6 N a c b) (
 G6 N a c 0))
def DB (N:Nat) (p0_w:AL) (d:Int) (o:Dw) (g:List (List Int)) (i:List Int) (j:List AI) (k:List AO) (l:Int×Int) (n:(List (List Int))→(List Int)→(List AI)→(List AO)→(List Int)→Option ((List (List Int))×(List Int)×(List Int)×(List AI)×(List AO))) (c:List Int):Option ((List (List Int))×(List Int)×(List Int)×(List AI)×(List AO)):=
 (Ga N l.1).bind λm=>
 (E8 N (⟨p0_w.b,p0_w.in_,(⟨p0_w.s.C,g,c,p0_w.s.H,p0_w.s.O,p0_w.s.N,i⟩:AF),j,p0_w.peaks,k⟩:AL) d (⟨o.Ak,o.Q,(-1),(λx=>AM N m x)⟩:AD)).bind λa=>
 n a.1 a.2.1 a.2.2.1 a.2.2.2 c
def CC (N:Nat) (p0_w:AL) (d:Int) (o:Dw) (a:List (List Int)) (i:List Int) (j:List AI) (k:List AO) (g:List Int):Option ((List (List Int))×(List Int)×(List Int)×(List AI)×(List AO)):=
 (ix a d).bind λp=>
 (ix a d).bind λm=>
 (Cr N m).bind λl=>
 cond (decide (0<(A9 (l-o.Av)))) (
 (Ga N (A9 (l-o.Av))).bind λn=>
 (E8 N (⟨p0_w.b,p0_w.in_,(⟨p0_w.s.C,a,g,p0_w.s.H,p0_w.s.O,p0_w.s.N,i⟩:AF),j,p0_w.peaks,k⟩:AL) d (⟨o.Ak,o.Q,(-2),(λx=>AM N n x)⟩:AD)).bind λc=>
 some (c.1,g,c.2.1,c.2.2.1,c.2.2.2)) (
 some (a,g,i,j,k))
def D2 (N:Nat) (p0_w:AL) (a:Int) (j:Dw) (b:List (List Int)) (d:List Int) (g:List AI) (i:List AO):Option ((List (List Int))×(List Int)×(List Int)×(List AI)×(List AO)):=
 cond (decide (j.T≠0)) (
 (ix p0_w.peaks a).bind λo=>
 (ix p0_w.peaks a).bind λk=>
 (ix p0_w.s.M a).bind λp=>
 (ix p0_w.s.M a).bind λl=>
 (Ib N j k l).bind λc=>
 (ix p0_w.s.M a).bind λq=>
 (ix p0_w.s.M a).bind λt=>
 (ix b a).bind λu=>
 (ix b a).bind λm=>
 (Cr N m).bind λn=>
 cond (decide (c.1≤n)) (
 (ix (upd p0_w.s.M a 0) a).bind λv=>
 (ix (upd p0_w.s.M a 0) a).bind λw=>
 DB N p0_w a j b d g i c (CC N p0_w a j) (upd (upd p0_w.s.M a 0) a c.2)) (
 DB N p0_w a j b d g i c (CC N p0_w a j) (upd p0_w.s.M a 0))) (
 CC N p0_w a j b d g i p0_w.s.M)
def CY (N:Nat) (p0_w:AL) (g:Int) (d:(List AD)) (m:(List (List Int))→(List Int)→(List AI)→(List AO)→Option ((List (List Int))×(List Int)×(List Int)×(List AI)×(List AO))):Nat→Int→(List (List Int))→(List Int)→(List AI)→(List AO)→Option ((List (List Int))×(List Int)×(List Int)×(List AI)×(List AO))
 |0,_,_,_,_,_=>none
 |p+1,a,i,j,k,l=>
 cond (decide (a<(↑d.length:Int))) (
 (ix d a).bind λo=>
 (ix d a).bind λn=>
 (E8 N (⟨p0_w.b,p0_w.in_,(⟨p0_w.s.C,i,p0_w.s.M,p0_w.s.H,p0_w.s.O,p0_w.s.N,j⟩:AF),k,p0_w.peaks,l⟩:AL) g n).bind λc=>
 CY N p0_w g d m p (A9 (a+1)) c.1 c.2.1 c.2.2.1 c.2.2.2) (
 m i j k l)
def Eb (N:Nat) (p0_w:AL) (a:Int):Option ((List (List Int))×(List Int)×(List Int)×(List AI)×(List AO)):=
 (ix p0_w.b.A a).bind λi=>
 (HR N p0_w a).bind λc=>
 (Gd N p0_w a).bind λd=>
 (CH N ([c,d]:List (List AD))).bind λg=>
 CY N p0_w a g (D2 N p0_w a i) N 0 p0_w.s.E p0_w.s.L p0_w.moves p0_w.sent
def DW (N:Nat) (k:AF) (c:(List (List Int))×(List Int)×(List AI)) (a:(List (List Int))×(List AO)×(List AQ)×(List Int)) (d:List (List Int)) (g:List Int) (i:List Int) (j:List AI) (b:List AO):Option (AF×(List AI)×(List Int)):=
 chk (I2 (a.2.1.length+b.length) 40) <|
 some ((⟨(A9 (k.C+1)),d,g,(a.2.1++b),a.2.2.1,c.2.1,i⟩:AF),j,a.2.2.2)
def DV (N:Nat) (c:AE) (d:Cs) (o:AF) (i:(List (List Int))×(List Int)×(List AI)) (b:(List (List Int))×(List AO)×(List AQ)×(List Int)) (p:(List (List Int))→(List Int)→(List Int)→(List AI)→(List AO)→Option (AF×(List AI)×(List Int))):Nat→Int→(List (List Int))→(List Int)→(List Int)→(List AI)→(List AO)→Option (AF×(List AI)×(List Int))
 |0,_,_,_,_,_,_=>none
 |q+1,g,j,k,l,m,n=>
 cond (decide (g<(↑c.A.length:Int))) (
 (Eb N (⟨c,d,(⟨o.C,j,k,b.2.1,b.2.2.1,i.2.1,l⟩:AF),m,b.2.2.2,n⟩:AL) g).bind λa=>
 DV N c d o i b p q (A9 (g+1)) a.1 a.2.1 a.2.2.1 a.2.2.2.1 a.2.2.2.2) (
 p j k l m n)
def Em (N:Nat) (a:AE) (j:AF) (c:Cs):Option (AF×(List AI)×(List Int)):=
 (J6 N j).bind λb=>
 chk (KR (↑a.A.length:Int) (↑a.A.length:Int) 8) <|
 (Gc N (⟨a,c,b,([]:List AI),(List.replicate ((↑a.A.length:Int):Int).toNat (0:Int)),([]:List AO)⟩:AL)).bind λg=>
 (Ea N (⟨a,c,({ b with O:=g}:AF),([]:List AI),(List.replicate ((↑a.A.length:Int):Int).toNat (0:Int)),([]:List AO)⟩:AL)).bind λk=>
 (Ht N (⟨a,c,(⟨b.C,k,b.M,b.H,g,b.N,b.L⟩:AF),([]:List AI),(List.replicate ((↑a.A.length:Int):Int).toNat (0:Int)),([]:List AO)⟩:AL)).bind λd=>
 (El N (⟨a,c,(⟨b.C,d.1,b.M,b.H,g,d.2.1,b.L⟩:AF),d.2.2,(List.replicate ((↑a.A.length:Int):Int).toNat (0:Int)),([]:List AO)⟩:AL)).bind λi=>
 DV N a c b d i (DW N b d i) N 0 i.1 b.M b.L d.2.2 ([]:List AO)
def JI (N:Nat) (a:List AF) (b:List AI) (c:List (List Int)):Option ((List AF)×(List AI)×(List (List Int))):=
 some (a,b,c)
def Gr (N:Nat) (c:AE) (b:(List Cs)) (k:(List AF)→(List AI)→(List (List Int))→Option ((List AF)×(List AI)×(List (List Int)))):Nat→(List AF)→(List AI)→(List (List Int))→Int→Int→(List (List Int))→(List Int)→(List AO)→(List AQ)→(List Int)→(List Int)→Option ((List AF)×(List AI)×(List (List Int)))
 |0,_,_,_,_,_,_,_,_,_,_,_=>none
 |u+1,d,g,i,j,m,n,o,p,q,s,t=>
 cond (decide (j<(↑b.length:Int))) (
 (ix b j).bind λl=>
 (Em N c (⟨m,n,o,p,q,s,t⟩:AF) l).bind λa=>
 chk (I2 (d.length+1) 152) <|
 chk (I2 (g.length+a.2.1.length) 56) <|
 chk (I2 (i.length+1) 24) <|
 Gr N c b k u (d++([a.1]:List AF)) (g++a.2.1) (i++([a.2.2]:List (List Int))) (A9 (j+1)) a.1.C a.1.E a.1.M a.1.H a.1.O a.1.N a.1.L) (
 k d g i)
def Jo (N:Nat) (c:AE) (a:AF) (b:(List Cs)):Option ((List AF)×(List AI)×(List (List Int))):=
 Gr N c b (JI N) N ([]:List AF) ([]:List AI) ([]:List (List Int)) 0 a.C a.E a.M a.H a.O a.N a.L
def KC (N:Nat) (a:List Int):Option (List Int):=
 some a
def Ld (N:Nat) (a:Int) (b:Int→(List Int)→Option (List Int)) (c:List Int):Option (List Int):=
 b (A9 (a+1)) c
def Ia (N:Nat) (b:(List AI)) (c:Int) (a:Int) (d:Int) (k:(List Int)→Option (List Int)):Nat→Int→(List Int)→Option (List Int)
 |0,_,_=>none
 |o+1,j,i=>
 cond (decide (j<(↑b.length:Int))) (
 (ix b j).bind λg=>
 cond (((decide (g.D=c))&&(decide (a≤g.C)))&&(decide (g.C<d))) (
 (ix i (A9 (g.C-a))).bind λp=>
 (ix i (A9 (g.C-a))).bind λl=>
 (Cr N g.K).bind λm=>
 (Er N l m).bind λn=>
 (ix i (A9 (g.C-a))).bind λq=>
 (ix i (A9 (g.C-a))).bind λs=>
 Ld N j (Ia N b c a d k o) (upd i (A9 (g.C-a)) n)) (
 Ld N j (Ia N b c a d k o) i)) (
 k i)
def QG (N:Nat) (c:(List AI)) (d:Int) (b:Int) (a:Int):Option (List Int):=
 (GM N a b).bind λg=>
 cond ((decide (a≤b))||(decide (65536<g))) (
 some ([]:List Int)) (
 chk (KR g g 8) <|
 Ia N c d b a (KC N) N 0 (List.replicate (g:Int).toNat (0:Int)))
def IR (N:Nat) (a:ByteArray) (i:Int) (j:Int) (c:Int→Option (Int×Int)):Nat→Int→Int→Option (Int×Int)
 |0,_,_=>none
 |k+1,d,b=>
 cond (decide (b≤i)) (
 (VD a b).bind λg=>
 IR N a i j c k (FJ .or .u64 (Dh .u64 d 8) (IntKind.wrap .u64 (FJ .xor .u8 g j))) (A9 (b+1))) (
 c d)
def JS (N:Nat) (b:Int) (c:Int) (a:Int):Option (Int×Int):=
 cond (decide (9223372036854775807<a)) (
 some (0,0)) (
 cond (decide (c≠0)) (
 some ((A9 ((A9 (0-(A9 a)))-1)),(A9 (1+b)))) (
 some ((A9 a),(A9 (1+b)))))
def JT (N:Nat) (a:ByteArray) (b:Int) (c:Int):Option (Int×Int):=
 cond ((decide (8<b))||(decide ((↑a.size:Int)<(A9 (1+b))))) (
 some (0,0)) (
 (cond (decide (0<b)) ((VD a 1).bind λd=>
 some (decide (d=c))) (some false)).bind λg=>
 cond g (
 some (0,0)) (
 IR N a b c (JS N b c) N 0 1))
def Mf (N:Nat) (a:ByteArray):Option (Int×Int):=
 cond (a==ByteArray.empty) (
 some (0,0)) (
 (VD a 0).bind λb=>
 cond (decide ((A9 ((A9 b)-128))<0)) (
 (VD a 0).bind λc=>
 JT N a (A9 (127-(A9 c))) 255) (
 JT N a (A9 ((A9 b)-128)) 0))
def Dz (N:Nat) (p0_r:AT):Option (Int×ByteArray×Bool):=
 cond p0_r.bad (
 some (0,p0_r.rest_,p0_r.bad)) (
 (Mf N p0_r.rest_).bind λa=>
 cond (decide (a.2=0)) (
 some (0,p0_r.rest_,true)) (
 (subD p0_r.rest_ a.2).bind λb=>
 some (a.1,b,p0_r.bad)))
def KV (N:Nat) (p0_r:AT):Option Int:=
 cond p0_r.bad (
 some 0) (
 some (↑p0_r.rest_.size:Int))
def Lm (N:Nat) (p0_r:AT):Option (Int×Bool×ByteArray×Bool):=
 (Dz N p0_r).bind λa=>
 (cond (decide (0≤a.1)) ((KV N (⟨a.2.1,a.2.2⟩:AT)).bind λb=>
 some (decide (a.1≤b))) (some false)).bind λc=>
 some (a.1,c,a.2.1,a.2.2)
def HD (N:Nat) (a:ByteArray) (b:Bool):Option ((List Int)×ByteArray×Bool):=
 some (([]:List Int),a,true)
def Fg (N:Nat) (c:ByteArray→Bool→Option ((List Int)×ByteArray×Bool)):Nat→(List Int)→ByteArray→Bool→Option ((List Int)×ByteArray×Bool)
 |0,_,_,_=>none
 |k+1,d,b,a=>
 cond ((!a)&&(!(b==ByteArray.empty))) (
 (VD b 0).bind λj=>
 (subD b 1).bind λg=>
 cond (decide (j=0)) (
 some (d,g,a)) (
 cond (decide (j≠1)) (
 c g a) (
 (Dz N (⟨g,a⟩:AT)).bind λi=>
 chk (I2 (d.length+1) 8) <|
 Fg N c k (d++([i.1]:List Int)) i.2.1 i.2.2))) (
 c b a)
def JP (N:Nat) (p0_r:AT):Option ((List Int)×ByteArray×Bool):=
 Fg N (HD N) N ([]:List Int) p0_r.rest_ p0_r.bad
def GB (N:Nat) (p0_r:AT):Option ((List Int)×ByteArray×Bool):=
 (JP N p0_r).bind λa=>
 some (a.1,a.2.1,a.2.2)
def KW (N:Nat) (p0_r:AT):Option Bool:=
 some ((!p0_r.bad)&&(p0_r.rest_==ByteArray.empty))
def J8 (N:Nat) (g:Int×Bool×ByteArray×Bool) (l:ByteArray→Bool→(List AO)→Option (AF×Bool×ByteArray×Bool)):Nat→Int→ByteArray→Bool→(List AO)→Option (AF×Bool×ByteArray×Bool)
 |0,_,_,_,_=>none
 |m+1,i,j,k,a=>
 cond (decide (i<g.1)) (
 (Dz N (⟨j,k⟩:AT)).bind λb=>
 (Dz N (⟨b.2.1,b.2.2⟩:AT)).bind λc=>
 (GB N (⟨c.2.1,c.2.2⟩:AT)).bind λd=>
 chk (I2 (a.length+1) 40) <|
 J8 N g l m (A9 (i+1)) d.2.1 d.2.2 (a++([(⟨b.1,c.1,d.1⟩:AO)]:List AO))) (
 l j k a)
def J7 (N:Nat) (g:Int×Bool×ByteArray×Bool) (l:ByteArray→Bool→(List AQ)→Option (AF×Bool×ByteArray×Bool)):Nat→Int→ByteArray→Bool→(List AQ)→Option (AF×Bool×ByteArray×Bool)
 |0,_,_,_,_=>none
 |m+1,i,j,k,b=>
 cond (decide (i<g.1)) (
 (Dz N (⟨j,k⟩:AT)).bind λc=>
 (Dz N (⟨c.2.1,c.2.2⟩:AT)).bind λd=>
 (Dz N (⟨d.2.1,d.2.2⟩:AT)).bind λa=>
 chk (I2 (b.length+1) 24) <|
 J7 N g l m (A9 (i+1)) a.2.1 a.2.2 (b++([(⟨c.1,d.1,(decide ((FJ .and .i64 a.1 1)≠0)),(decide ((FJ .and .i64 a.1 2)≠0))⟩:AQ)]:List AQ))) (
 l j k b)
def LZ (N:Nat) (l:Int×ByteArray×Bool) (m:List (List Int)) (c:(List Int)×ByteArray×Bool) (d:List AO) (g:ByteArray) (i:Bool) (j:List AQ):Option (AF×Bool×ByteArray×Bool):=
 (GB N (⟨g,i⟩:AT)).bind λb=>
 (GB N (⟨b.2.1,b.2.2⟩:AT)).bind λa=>
 (KW N (⟨a.2.1,a.2.2⟩:AT)).bind λk=>
 some ((⟨l.1,m,c.1,d,j,b.1,a.1⟩:AF),k,a.2.1,a.2.2)
def La (N:Nat) (d:Int×ByteArray×Bool) (g:List (List Int)) (b:(List Int)×ByteArray×Bool) (i:ByteArray) (j:Bool) (c:List AO):Option (AF×Bool×ByteArray×Bool):=
 (Lm N (⟨i,j⟩:AT)).bind λa=>
 cond (!a.2.1) (
 some ((⟨d.1,g,b.1,c,[],[],[]⟩:AF),false,a.2.2.1,a.2.2.2)) (
 J7 N a (LZ N d g b c) N 0 a.2.2.1 a.2.2.2 ([]:List AQ))
def Lb (N:Nat) (c:Int×ByteArray×Bool) (g:ByteArray) (i:Bool) (d:List (List Int)):Option (AF×Bool×ByteArray×Bool):=
 (GB N (⟨g,i⟩:AT)).bind λb=>
 (Lm N (⟨b.2.1,b.2.2⟩:AT)).bind λa=>
 cond (!a.2.1) (
 some ((⟨c.1,d,b.1,[],[],[],[]⟩:AF),false,a.2.2.1,a.2.2.2)) (
 J8 N a (La N c d b) N 0 a.2.2.1 a.2.2.2 ([]:List AO))
def J9 (N:Nat) (c:Int×Bool×ByteArray×Bool) (d:ByteArray→Bool→(List (List Int))→Option (AF×Bool×ByteArray×Bool)):Nat→Int→ByteArray→Bool→(List (List Int))→Option (AF×Bool×ByteArray×Bool)
 |0,_,_,_,_=>none
 |k+1,g,i,j,a=>
 cond (decide (g<c.1)) (
 (GB N (⟨i,j⟩:AT)).bind λb=>
 chk (I2 (a.length+1) 24) <|
 J9 N c d k (A9 (g+1)) b.2.1 b.2.2 (a++([b.1]:List (List Int)))) (
 d i j a)
def QE (N:Nat) (p0_r:AT):Option (AF×Bool×ByteArray×Bool):=
 (Dz N p0_r).bind λb=>
 (Lm N (⟨b.2.1,b.2.2⟩:AT)).bind λa=>
 cond (!a.2.1) (
 some ((⟨b.1,[],[],[],[],[],[]⟩:AF),false,a.2.2.1,a.2.2.2)) (
 J9 N a (Lb N b) N 0 a.2.2.1 a.2.2.2 ([]:List (List Int)))
def Jt (N:Nat) (b:(List Int)) (a:Int):Option Bool:=
 (cond (((decide (0≤a))&&(decide (a≤16)))&&(decide ((↑b.length:Int)=a))) ((IS N b).bind λc=>
 some c) (some false)).bind λd=>
 some d
def GE (N:Nat) (b:AE) (a:AF) (j:Int→Option (Int×Bool)):Nat→Int→Int→Option (Int×Bool)
 |0,_,_=>none
 |o+1,g,i=>
 cond (decide (i<(↑a.H.length:Int))) (
 (ix a.H i).bind λd=>
 (cond (decide (d.Ao<a.C)) (some true) ((Gb N d.B (↑b.A.length:Int)).bind λk=>
 some (!k))).bind λl=>
 (cond l (some true) ((Jt N d.K (↑b.I.length:Int)).bind λm=>
 some (!m))).bind λn=>
 cond n (
 some (0,false)) (
 (Cr N d.K).bind λc=>
 cond ((decide (c≤0))||(decide (1125899906842624<(A9 (g+c))))) (
 some (0,false)) (
 GE N b a j o (A9 (g+c)) (A9 (i+1))))) (
 j g)
def Hs (N:Nat) (a:Int):Option (Int×Bool):=
 some (a,true)
def E7 (N:Nat) (a:AE) (b:AF) (c:Int):Option (Int×Bool):=
 GE N a b (Hs N) N c 0
def E6 (N:Nat) (b:AE) (a:AF) (g:Int→Option (Int×Bool)):Nat→Int→Int→Option (Int×Bool)
 |0,_,_=>none
 |l+1,c,d=>
 cond (decide (d<(↑a.E.length:Int))) (
 (ix a.E d).bind λi=>
 (Jt N i (↑b.I.length:Int)).bind λk=>
 cond (!k) (
 some (0,false)) (
 (Cr N i).bind λj=>
 cond (decide (1125899906842624<(A9 (c+j)))) (
 some (0,false)) (
 E6 N b a g l (A9 (c+j)) (A9 (d+1))))) (
 g c)
def J5 (N:Nat) (a:AE) (b:AF):Option (Int×Bool):=
 E6 N a b (E7 N a b) N 0 0
def HQ (N:Nat) (a:Int):Option (Int×Bool):=
 some (a,true)
def FW (N:Nat) (b:(List Int)) (a:Int) (g:Int→Option (Int×Bool)):Nat→Int→Int→Option (Int×Bool)
 |0,_,_=>none
 |j+1,i,c=>
 cond (decide (c<(↑b.length:Int))) (
 (ix b c).bind λd=>
 cond ((decide (d<0))||(decide ((A9 (a-i))<d))) (
 some (0,false)) (
 FW N b a g j (A9 (i+d)) (A9 (c+1)))) (
 g i)
def Ii (N:Nat) (b:(List Int)) (a:Int):Option (Int×Bool):=
 FW N b a (HQ N) N 0 0
def Ft (N:Nat) (d:AE) (g:AF) (i:Option Bool):Nat→Int→Option Bool
 |0,_=>none
 |j+1,b=>
 cond (decide (b<(↑d.F.length:Int))) (
 (ix d.F b).bind λc=>
 (ix g.O b).bind λa=>
 cond ((((decide (a.V<0))||(decide (c.U<a.V)))||(decide (a.X<0)))||(decide (c.U<a.X))) (
 some false) (
 cond ((a.Am&&(decide (c.G≠5)))&&(decide (c.G≠3))) (
 some false) (
 Ft N d g i j (A9 (b+1))))) (
 i)
def Fv (N:Nat) (d:AE) (a:AF):Option Bool:=
 (J5 N d a).bind λb=>
 cond (!b.2) (
 some false) (
 (Ii N a.N 1152921504606846976).bind λc=>
 cond (!c.2) (
 some false) (
 (Ii N a.L (A9 ((A9 (c.1+1125899906842624))-b.1))).bind λg=>
 some g.2))
def Fw (N:Nat) (a:AE) (b:AF):Option Bool:=
 Ft N a b (Fv N a b) N 0
def Fu (N:Nat) (a:AE) (b:AF) (d:Option Bool):Nat→Int→Option Bool
 |0,_=>none
 |l+1,c=>
 cond (decide (c<(↑a.A.length:Int))) (
 (ix a.A c).bind λk=>
 (ix b.M c).bind λg=>
 (cond (decide (g<0)) (some true) ((ix b.M c).bind λi=>
 some (decide ((max 0 (A9 (k.T-1)))<i)))).bind λj=>
 cond j (
 some false) (
 Fu N a b d l (A9 (c+1)))) (
 d)
def Jm (N:Nat) (b:AE) (a:AF):Option Bool:=
 cond (((((((decide (a.C<0))||(decide (16777216<a.C)))||(decide ((↑a.E.length:Int)≠(↑b.A.length:Int))))||(decide ((↑a.M.length:Int)≠(↑b.A.length:Int))))||(decide ((↑a.O.length:Int)≠(↑b.F.length:Int))))||(decide ((↑a.N.length:Int)≠(↑b.I.length:Int))))||(decide ((↑a.L.length:Int)≠(↑b.I.length:Int)))) (
 some false) (
 Fu N b a (Fw N b a) N 0)
def D3 (N:Nat):Nat→Int→Int→(List Int)→Option (List Int)
 |0,_,_,_=>none
 |i+1,b,c,a=>
 cond (decide (b<c)) (
 (ix a c).bind λj=>
 (ix a c).bind λd=>
 (ix a b).bind λk=>
 (ix a b).bind λg=>
 (ix a b).bind λl=>
 (ix a b).bind λm=>
 (ix (upd a b d) c).bind λn=>
 (ix (upd a b d) c).bind λo=>
 D3 N i (A9 (b+1)) (A9 (c-1)) (upd (upd a b d) c g)) (
 some a)
def Hx (N:Nat) (a:(List Int)):Option (List Int):=
 D3 N N 0 (A9 ((↑a.length:Int)-1)) a
def Jl (N:Nat) (a:Int) (b:Int) (c:List Int):Option (List Int):=
 chk (I2 (c.length+1) 1) <|
 (Hx N (c++([(IntKind.wrap .u8 (A9 (a+(A9 (b*(↑c.length:Int))))))]:List Int))).bind λd=>
 some d
def Ih (N:Nat) (a:Int) (d:(List Int)→Option (List Int)):Nat→Int→(List Int)→Option (List Int)
 |0,_,_=>none
 |g+1,b,c=>
 cond (decide (0<b)) (
 chk (I2 (c.length+1) 1) <|
 Ih N a d g (EJ .u64 b 8) (c++([(FJ .xor .u8 (IntKind.wrap .u8 b) a)]:List Int))) (
 d c)
def LX (N:Nat) (d:Int) (a:Int) (b:Int) (c:Int):Option (List Int):=
 chk (KR 0 9 1) <|
 Ih N c (Jl N a b) N d (List.replicate (0:Int).toNat (0:Int))
def HW (N:Nat) (a:Int):Option ByteArray:=
 cond (decide (0≤a)) (
 (LX N (IntKind.wrap .u64 a) 128 1 0).bind λg=>
 (tD g).bind λb=>
 some b) (
 (LX N (IntKind.wrap .u64 (A9 (0-(A9 (a+1))))) 127 (-1) 255).bind λc=>
 (tD c).bind λd=>
 some d)
def HE (N:Nat) (c:ByteArray):Option ByteArray:=
 (rZ N c 0).bind λa=>
 (rY N a).bind λb=>
 some b
def Fh (N:Nat) (a:(List Int)) (c:ByteArray→Option ByteArray):Nat→Int→ByteArray→Option ByteArray
 |0,_,_=>none
 |l+1,b,d=>
 cond (decide (b<(↑a.length:Int))) (
 (ix a b).bind λg=>
 (rZ N d 1).bind λi=>
 (HW N g).bind λj=>
 (Ps N i j).bind λk=>
 Fh N a c l (A9 (b+1)) k) (
 c d)
def JQ (N:Nat) (a:(List Int)):Option ByteArray:=
 Fh N a (HE N) N 0 ByteArray.empty
def JZ (N:Nat) (a:(List Int)):Option ByteArray:=
 (JQ N a).bind λb=>
 some b
def Ja (N:Nat) (a:AF) (g:ByteArray→Option ByteArray):Nat→Int→ByteArray→Option ByteArray
 |0,_,_=>none
 |o+1,b,d=>
 cond (decide (b<(↑a.H.length:Int))) (
 (ix a.H b).bind λc=>
 (HW N c.Ao).bind λi=>
 (Ps N d i).bind λj=>
 (HW N c.B).bind λk=>
 (Ps N j k).bind λl=>
 (JZ N c.K).bind λm=>
 (Ps N l m).bind λn=>
 Ja N a g o (A9 (b+1)) n) (
 g d)
def Kp (N:Nat) (b:Int) (c:ByteArray) (a:AQ) (n:Int→ByteArray→Option ByteArray) (d:Int):Option ByteArray:=
 (HW N a.V).bind λg=>
 (Ps N c g).bind λi=>
 (HW N a.X).bind λj=>
 (Ps N i j).bind λk=>
 (HW N d).bind λl=>
 (Ps N k l).bind λm=>
 n (A9 (b+1)) m
def Kq (N:Nat) (b:Int) (c:ByteArray) (a:AQ) (g:Int→ByteArray→Option ByteArray) (d:Int):Option ByteArray:=
 cond a.Am (
 Kp N b c a g (A9 (d+2))) (
 Kp N b c a g d)
def HM (N:Nat) (a:AF) (g:ByteArray→Option ByteArray):Nat→Int→ByteArray→Option ByteArray
 |0,_,_=>none
 |i+1,b,c=>
 cond (decide (b<(↑a.O.length:Int))) (
 (ix a.O b).bind λd=>
 cond d.Au (
 Kq N b c d (HM N a g i) (A9 (0+1))) (
 Kq N b c d (HM N a g i) 0)) (
 g c)
def Il (N:Nat) (a:AF) (b:ByteArray):Option ByteArray:=
 (JZ N a.N).bind λc=>
 (Ps N b c).bind λd=>
 (JZ N a.L).bind λg=>
 (Ps N d g).bind λi=>
 (rY N i).bind λj=>
 some j
def Kr (N:Nat) (a:AF) (b:ByteArray):Option ByteArray:=
 (HW N (↑a.O.length:Int)).bind λc=>
 (Ps N b c).bind λd=>
 HM N a (Il N a) N 0 d
def Ks (N:Nat) (a:AF) (i:ByteArray):Option ByteArray:=
 (JZ N a.M).bind λb=>
 (Ps N i b).bind λc=>
 (HW N (↑a.H.length:Int)).bind λd=>
 (Ps N c d).bind λg=>
 Ja N a (Kr N a) N 0 g
def Jb (N:Nat) (a:AF) (c:ByteArray→Option ByteArray):Nat→Int→ByteArray→Option ByteArray
 |0,_,_=>none
 |k+1,b,d=>
 cond (decide (b<(↑a.E.length:Int))) (
 (ix a.E b).bind λg=>
 (JZ N g).bind λi=>
 (Ps N d i).bind λj=>
 Jb N a c k (A9 (b+1)) j) (
 c d)
def NC (N:Nat) (a:AF):Option ByteArray:=
 (HW N a.C).bind λb=>
 (Ps N ByteArray.empty b).bind λc=>
 (HW N (↑a.E.length:Int)).bind λd=>
 (Ps N c d).bind λg=>
 Jb N a (Ks N a) N 0 g
def N3 (N:Nat) (c:AE) (b:ByteArray):Option (AF×Bool):=
 (lJ N b).bind λd=>
 (QE N d).bind λa=>
 (cond (!a.2.1) (some true) ((Jm N c a.1).bind λg=>
 some (!g))).bind λi=>
 (cond i (some true) ((NC N a.1).bind λj=>
 some (!(j==b)))).bind λk=>
 cond k (
 some ((⟨0,[],[],[],[],[],[]⟩:AF),false)) (
 some (a.1,true))
def Hk (N:Nat) (b:AE) (a:Int):Option Bool:=
 some ((decide (0≤a))&&(decide (a<(↑b.A.length:Int))))
def E0 (N:Nat) (b:Int) (a:Int):Option (Int×Int):=
 some (b,a)
def F7 (N:Nat) (a:Int) (b:Int→Int→Int→Option (Int×Int)) (c:Int) (d:Int):Option (Int×Int):=
 b c d (A9 (a+1))
def IJ (N:Nat) (a:Int) (b:Int) (c:AI) (k:Dw) (l:Bool) (d:Int→Int→Option (Int×Int)) (g:Int):Option (Int×Int):=
 cond (((decide (k.Ac=a))&&(!l))&&(decide (c.Ap≠(-3)))) (
 (Cr N c.K).bind λi=>
 (Er N b i).bind λj=>
 d g j) (
 d g b)
def DE (N:Nat) (c:AE) (b:(List AI)) (a:Int) (i:Int→Int→Option (Int×Int)):Nat→Int→Int→Int→Option (Int×Int)
 |0,_,_,_=>none
 |p+1,j,k,g=>
 cond (decide (g<(↑b.length:Int))) (
 (ix b g).bind λd=>
 (Hk N c d.D).bind λq=>
 (cond (!q) (some true) ((cond (decide (d.B≠(-1))) ((Hk N c d.B).bind λs=>
 some (!s)) (some false)).bind λt=>
 some t)).bind λu=>
 cond u (
 F7 N g (DE N c b a i p) j k) (
 (ix c.A d.D).bind λl=>
 (cond (decide (d.B≠(-1))) ((ix c.A d.B).bind λv=>
 some (decide (v.Ac=a))) (some false)).bind λm=>
 cond ((!(decide (l.Ac=a)))&&m) (
 (Cr N d.K).bind λn=>
 (Er N j n).bind λo=>
 IJ N a k d l m (F7 N g (DE N c b a i p)) o) (
 IJ N a k d l m (F7 N g (DE N c b a i p)) j))) (
 i j k)
def Jn (N:Nat) (c:AE) (b:(List AI)) (a:Int):Option (Int×Int):=
 DE N c b a (E0 N) N 0 0 0
def Cc (N:Nat) (c:Int) (b:Int) (a:Int):Option Bool:=
 some ((decide (b≤c))&&(decide (c≤a)))
def CS (N:Nat) (a:Int):Option Bool:=
 (Cc N a 0 1125899906842624).bind λb=>
 some b
def D5 (N:Nat) (a:AE) (c:Option Bool):Nat→Int→Option Bool
 |0,_=>none
 |i+1,b=>
 cond (decide (b<(↑a.Al.length:Int))) (
 (ix a.Al b).bind λd=>
 (CS N d).bind λg=>
 cond (!g) (
 some false) (
 D5 N a c i (A9 (b+1)))) (
 c)
def GU (N:Nat):Option Bool:=
 some true
def D7 (N:Nat) (a:AE):Option Bool:=
 D5 N a (GU N) N 0
def D6 (N:Nat) (a:AE) (d:Option Bool):Nat→Int→Option Bool
 |0,_=>none
 |g+1,c=>
 cond (decide (c<(↑a.J.size:Int))) (
 (VD a.J c).bind λb=>
 cond ((((decide (b<32))||(decide (126<b)))||(decide (b=34)))||(decide (b=92))) (
 some false) (
 D6 N a d g (A9 (c+1)))) (
 d)
def IU (N:Nat) (a:AE):Option Bool:=
 (cond (decide (500<(↑a.J.size:Int))) (some true) ((Cc N (↑a.I.length:Int) 1 16).bind λb=>
 some (!b))).bind λc=>
 (cond c (some true) ((Cc N a.P 0 64).bind λd=>
 some (!d))).bind λg=>
 (cond g (some true) ((Cc N (↑a.A.length:Int) 1 64).bind λi=>
 some (!i))).bind λj=>
 (cond ((((((j||(decide (96<(↑a.F.length:Int))))||(decide (40<(↑a.Ab.length:Int))))||(decide (128<(↑a.Ae.length:Int))))||(decide (128<(↑a.Af.length:Int))))||(decide (40<(↑a.Ai.length:Int))))||(decide ((↑a.Al.length:Int)≠3))) (some true) ((Cc N a.S 0 1099511627776).bind λk=>
 some (!k))).bind λl=>
 cond l (
 some false) (
 D6 N a (D7 N a) N 0)
def HU (N:Nat):Option Bool:=
 some true
def Fa (N:Nat) (a:ByteArray) (d:Option Bool):Nat→Int→Option Bool
 |0,_=>none
 |g+1,c=>
 cond (decide (c<(↑a.size:Int))) (
 (VD a c).bind λb=>
 cond ((((decide (b<97))||(decide (122<b)))&&((decide (b<48))||(decide (57<b))))&&(decide (b≠95))) (
 some false) (
 Fa N a d g (A9 (c+1)))) (
 d)
def Je (N:Nat) (a:ByteArray):Option Bool:=
 (cond (((decide ((↑a.size:Int)<1))||(decide (24<(↑a.size:Int))))||(a==(ByteArray.mk #[111,117,116]))) (some true) ((VD a 0).bind λb=>
 some (decide (b<97)))).bind λc=>
 (cond c (some true) ((VD a 0).bind λd=>
 some (decide (122<d)))).bind λg=>
 cond g (
 some false) (
 Fa N a (HU N) N 1)
def Hv (N:Nat) (a:(List (AH×Bool))) (b:ByteArray) (d:ByteArray):Option (Bool×(List (AH×Bool))):=
 (Je N b).bind λc=>
 cond ((!c)||((Na (λk:AH=>Value.agg (AH.v k).toArray) a (⟨d,b⟩:AH)).getD false)) (
 some (false,a)) (
 some (true,(Ra (λk:AH=>Value.agg (AH.v k).toArray) a (⟨d,b⟩:AH) true)))
def KF (N:Nat) (a:(List (AH×Bool))) (b:ByteArray) (c:ByteArray):Option (Bool×(List (AH×Bool))):=
 cond (b==(ByteArray.mk #[115,104,101,108,116,101,114])) (
 Hv N a c (ByteArray.mk #[116,111,119,110])) (
 Hv N a c b)
def Cz (N:Nat) (c2_:(List (AH×Bool))) (c3_:Bool) (a:ByteArray) (b:ByteArray):Option ((List (AH×Bool))×Bool):=
 (KF N c2_ a b).bind λc=>
 some (c.2,(c.1&&c3_))
def DK (N:Nat) (a:AE) (d:Bool→((List (AH×Bool)))→Option Bool):Nat→Int→Bool→((List (AH×Bool)))→Option Bool
 |0,_,_,_=>none
 |k+1,c,g,i=>
 cond (decide (c<(↑a.A.length:Int))) (
 (ix a.A c).bind λj=>
 (Cz N i g (ByteArray.mk #[112,108,97,99,101]) j.J).bind λb=>
 DK N a d k (A9 (c+1)) b.2 b.1) (
 d g i)
def DJ (N:Nat) (a:AE) (i:Bool→((List (AH×Bool)))→Option Bool):Nat→Int→Bool→((List (AH×Bool)))→Option Bool
 |0,_,_,_=>none
 |k+1,b,c,d=>
 cond (decide (b<(↑a.F.length:Int))) (
 (ix a.F b).bind λj=>
 (Cz N d c (ByteArray.mk #[108,105,110,107]) j.J).bind λg=>
 DJ N a i k (A9 (b+1)) g.2 g.1) (
 i c d)
def DI (N:Nat) (a:AE) (i:Bool→((List (AH×Bool)))→Option Bool):Nat→Int→Bool→((List (AH×Bool)))→Option Bool
 |0,_,_,_=>none
 |k+1,b,c,d=>
 cond (decide (b<(↑a.Ab.length:Int))) (
 (ix a.Ab b).bind λj=>
 (Cz N d c (ByteArray.mk #[116,111,119,110]) j.J).bind λg=>
 DI N a i k (A9 (b+1)) g.2 g.1) (
 i c d)
def DH (N:Nat) (a:AE) (i:Bool→((List (AH×Bool)))→Option Bool):Nat→Int→Bool→((List (AH×Bool)))→Option Bool
 |0,_,_,_=>none
 |k+1,b,c,d=>
 cond (decide (b<(↑a.Ai.length:Int))) (
 (ix a.Ai b).bind λj=>
 (Cz N d c (ByteArray.mk #[115,104,101,108,116,101,114]) j.J).bind λg=>
 DH N a i k (A9 (b+1)) g.2 g.1) (
 i c d)
def C9 (N:Nat) (a:AE) (c:Bool→((List (AH×Bool)))→Option Bool):Nat→Int→Bool→((List (AH×Bool)))→Option Bool
 |0,_,_,_=>none
 |k+1,b,d,g=>
 cond (decide (b<(↑a.Ae.length:Int))) (
 (ix a.Ae b).bind λj=>
 (Cz N g d (ByteArray.mk #[103,97,117,103,101]) j.J).bind λi=>
 C9 N a c k (A9 (b+1)) i.2 i.1) (
 c d g)
def C8 (N:Nat) (a:AE) (c:Bool→Option Bool):Nat→Int→Bool→((List (AH×Bool)))→Option Bool
 |0,_,_,_=>none
 |k+1,b,d,i=>
 cond (decide (b<(↑a.Af.length:Int))) (
 (ix a.Af b).bind λj=>
 (Cz N i d (ByteArray.mk #[114,111,97,100]) j.J).bind λg=>
 C8 N a c k (A9 (b+1)) g.2 g.1) (
 c d)
def EA (N:Nat) (a:Bool):Option Bool:=
 some a
def EB (N:Nat) (a:AE) (b:Bool) (c:(List (AH×Bool))):Option Bool:=
 C8 N a (EA N) N 0 b c
def EU (N:Nat) (a:AE) (b:Bool) (c:(List (AH×Bool))):Option Bool:=
 C9 N a (EB N a) N 0 b c
def EV (N:Nat) (a:AE) (b:Bool) (c:(List (AH×Bool))):Option Bool:=
 DH N a (EU N a) N 0 b c
def EW (N:Nat) (a:AE) (b:Bool) (c:(List (AH×Bool))):Option Bool:=
 DI N a (EV N a) N 0 b c
def EY (N:Nat) (a:AE) (b:Bool) (c:(List (AH×Bool))):Option Bool:=
 DJ N a (EW N a) N 0 b c
def EZ (N:Nat) (a:AE) (b:Bool) (c:(List (AH×Bool))):Option Bool:=
 DK N a (EY N a) N 0 b c
def DL (N:Nat) (a:AE) (c:Bool→((List (AH×Bool)))→Option Bool):Nat→Int→Bool→((List (AH×Bool)))→Option Bool
 |0,_,_,_=>none
 |k+1,b,d,g=>
 cond (decide (b<(↑a.I.length:Int))) (
 (ix a.I b).bind λj=>
 (Cz N g d (ByteArray.mk #[111,119,110,101,114]) j).bind λi=>
 DL N a c k (A9 (b+1)) i.2 i.1) (
 c d g)
def I8 (N:Nat) (a:AE):Option Bool:=
 DL N a (EZ N a) N 0 true ([]:(List (AH×Bool)))
def G9 (N:Nat) (a:Int) (b:Int):Option Bool:=
 (CS N a).bind λc=>
 (cond c ((CS N b).bind λd=>
 some d) (some false)).bind λg=>
 some (g&&((decide (b≠0))||(decide (a=0))))
def E2 (N:Nat) (b:Int) (a:Int):Option Bool:=
 (Cc N b 0 (A9 (a-1))).bind λc=>
 some c
def Iv (N:Nat) (c:AE) (b:Int) (a:Int):Option Bool:=
 (cond (decide (a=(-1))) (some true) ((E2 N a (↑c.A.length:Int)).bind λd=>
 some (d&&(decide (a≠b))))).bind λg=>
 some g
def BS (N:Nat) (a:Int):Option Bool:=
 some (decide (a≤1125899906842624))
def Ck (N:Nat) (d:Dw) (g:Int→Option Bool):Nat→Int→Int→Option Bool
 |0,_,_=>none
 |j+1,b,a=>
 cond (decide (a<(↑d.Be.length:Int))) (
 (ix d.Be a).bind λc=>
 (CS N c).bind λi=>
 cond (!i) (
 some false) (
 Ck N d g j (A9 (b+c)) (A9 (a+1)))) (
 g b)
def Cj (N:Nat) (c:AE) (g:Dw) (d:Int) (i:Int→Option Bool):Nat→Int→Int→Option Bool
 |0,_,_=>none
 |m+1,j,b=>
 cond (decide (b<(↑g.Aa.length:Int))) (
 (ix g.Aa b).bind λa=>
 (cond ((decide (a.Bh≤j))||(decide (c.P≤a.Bh))) (some true) ((CS N a.Bm).bind λk=>
 some (!k))).bind λl=>
 cond l (
 some false) (
 Cj N c g d i m a.Bh (A9 (b+1)))) (
 i d)
def Dd (N:Nat) (a:AE) (c:Dw) (d:Int→Option Bool) (b:Int):Option Bool:=
 Cj N a c b d N (-1) 0
def B9 (N:Nat) (a:Int) (b:Int→Int→Option Bool) (c:Int):Option Bool:=
 b c (A9 (a+1))
def BH (N:Nat) (b:AE) (d:Int→Option Bool):Nat→Int→Int→Option Bool
 |0,_,_=>none
 |y+1,g,c=>
 cond (decide (c<(↑b.A.length:Int))) (
 (ix b.A c).bind λa=>
 (Cc N a.G 0 3).bind λj=>
 (cond (!j) (some true) ((Cc N a.Ac 0 2).bind λk=>
 some (!k))).bind λl=>
 (cond l (some true) ((Cc N a.Q 0 240).bind λm=>
 some (!m))).bind λn=>
 (cond n (some true) ((CS N a.Av).bind λo=>
 some (!o))).bind λp=>
 (cond p (some true) ((CS N a.Bf).bind λq=>
 some (!q))).bind λs=>
 (cond s (some true) ((EM N a.Bn).bind λt=>
 some (!t))).bind λu=>
 (cond (u||(decide ((↑a.Be.length:Int)≠(↑b.I.length:Int)))) (some true) ((G9 N a.Y a.T).bind λv=>
 some (!v))).bind λw=>
 (cond w (some true) ((Iv N b c a.Ak).bind λi=>
 some (!i))).bind λx=>
 cond x (
 some false) (
 Ck N a (Dd N b a (B9 N c (BH N b d y))) N g 0)) (
 d g)
def Hf (N:Nat) (a:AE):Option Bool:=
 BH N a (BS N) N 0 0
def GN (N:Nat) (b:(List BU)) (a:(List BU)) (i:Option Bool):Nat→Int→Option Bool
 |0,_=>none
 |j+1,c=>
 cond (decide (c<(↑a.length:Int))) (
 (ix a c).bind λd=>
 (Ic N b d.R).bind λg=>
 cond ((decide (d.W<g.1))||((decide (g.1=d.W))&&g.2)) (
 some false) (
 GN N b a i j (A9 (c+1)))) (
 i)
def Hu (N:Nat):Option Bool:=
 some true
def GP (N:Nat) (a:(List BU)) (b:(List BU)):Option Bool:=
 GN N a b (Hu N) N 0
def GO (N:Nat) (a:(List BU)) (b:(List BU)) (d:Option Bool):Nat→Int→Option Bool
 |0,_=>none
 |j+1,c=>
 cond (decide (c<(↑a.length:Int))) (
 (ix a c).bind λg=>
 (Ic N b g.R).bind λi=>
 cond (decide (i.1<g.W)) (
 some false) (
 GO N a b d j (A9 (c+1)))) (
 d)
def Hq (N:Nat) (a:(List BU)) (b:(List BU)):Option Bool:=
 (EM N a).bind λc=>
 (cond (!c) (some true) ((EM N b).bind λd=>
 some (!d))).bind λg=>
 cond g (
 some false) (
 GO N a b (GP N a b) N 0)
def Dg (N:Nat) (a:BL) (b:Bool):Option Bool:=
 cond b (
 (CS N a.Bd).bind λc=>
 (cond c ((CS N a.Y).bind λd=>
 some d) (some false)).bind λg=>
 (cond g ((Cc N a.T 1 1125899906842624).bind λi=>
 some i) (some false)).bind λj=>
 some j) (
 cond (decide (a.G=2)) (
 (CS N a.Y).bind λk=>
 (cond k ((Cc N a.U 1 64).bind λl=>
 some l) (some false)).bind λm=>
 (cond m ((Cc N a.Ad 0 a.U).bind λn=>
 some n) (some false)).bind λo=>
 some o) (
 cond (decide (a.G=3)) (
 (CS N a.Y).bind λp=>
 (cond p ((Cc N a.T 1 1125899906842624).bind λq=>
 some q) (some false)).bind λs=>
 (cond s ((CS N a.Ax).bind λt=>
 some t) (some false)).bind λu=>
 (cond u ((CS N a.Ay).bind λv=>
 some v) (some false)).bind λw=>
 some (w&&(decide (a.Ay<a.Ax)))) (
 (CS N a.Y).bind λx=>
 (cond x ((Cc N a.T 1 1125899906842624).bind λy=>
 some y) (some false)).bind λz=>
 (cond z ((G9 N a.As a.An).bind λA=>
 some A) (some false)).bind λC=>
 some (C&&(decide (a.B≠(-1)))))))
def FT (N:Nat) (a:BL):Option Bool:=
 cond (decide (a.G=0)) (
 (EM N a.Aw).bind λb=>
 (cond b ((EM N a.Ag.Az).bind λc=>
 some c) (some false)).bind λd=>
 (cond d ((EM N a.Ag.Ba).bind λg=>
 some g) (some false)).bind λi=>
 (cond i ((Hq N a.Ag.Az a.Aw).bind λj=>
 some j) (some false)).bind λk=>
 (cond k ((Hq N a.Aw a.Ag.Ba).bind λl=>
 some l) (some false)).bind λm=>
 (cond m ((Cc N a.U 0 64).bind λn=>
 some n) (some false)).bind λo=>
 (cond o ((Cc N a.Ad 0 a.U).bind λp=>
 some p) (some false)).bind λq=>
 (cond q ((CS N a.Bc).bind λs=>
 some s) (some false)).bind λt=>
 (cond t ((G9 N a.As a.An).bind λu=>
 some u) (some false)).bind λv=>
 some (v&&((decide (a.B≠(-1)))||(decide (a.An=0))))) (
 cond (decide (a.G=1)) (
 Dg N a (decide (a.G=1))) (
 Dg N a (decide (a.G=5))))
def FQ (N:Nat) (a:BL):Option Bool:=
 cond ((!(decide (a.G=0)))&&((((decide (0<(↑a.Aw.length:Int)))||(decide (0<(↑a.Ag.Az.length:Int))))||(decide (0<(↑a.Ag.Ba.length:Int))))||(decide (a.Bc≠0)))) (
 some false) (
 cond (((!(decide (a.G=0)))&&(decide (a.G≠2)))&&((decide (a.U≠0))||(decide (a.Ad≠0)))) (
 some false) (
 cond (((decide (a.G≠1))&&(decide (a.G≠5)))&&(decide (a.Bd≠0))) (
 some false) (
 cond (((decide (a.G=0))&&(decide (a.Y≠0)))||(((decide (a.G=0))||(decide (a.G=2)))&&(decide (a.T≠0)))) (
 some false) (
 cond ((decide (a.G≠3))&&((decide (a.Ax≠0))||(decide (a.Ay≠0)))) (
 some false) (
 some (((decide (a.G=0))||(decide (a.G=4)))||((decide (a.As=0))&&(decide (a.An=0)))))))))
def DM (N:Nat):Option Bool:=
 some true
def Cd (N:Nat) (a:AE) (d:Option Bool):Nat→Int→Option Bool
 |0,_=>none
 |t+1,c=>
 cond (decide (c<(↑a.F.length:Int))) (
 (ix a.F c).bind λb=>
 (Cc N b.G 0 5).bind λg=>
 (cond (!g) (some true) ((E2 N b.D (↑a.A.length:Int)).bind λi=>
 some (!i))).bind λj=>
 (cond j (some true) ((Iv N a b.D b.B).bind λk=>
 some (!k))).bind λl=>
 (cond l (some true) ((Cc N b.Q 0 240).bind λm=>
 some (!m))).bind λn=>
 (cond n (some true) ((FT N b).bind λo=>
 some (!o))).bind λp=>
 (cond p (some true) ((FQ N b).bind λq=>
 some (!q))).bind λs=>
 cond s (
 some false) (
 Cd N a d t (A9 (c+1)))) (
 d)
def Ev (N:Nat) (a:AE):Option Bool:=
 Cd N a (DM N) N 0
def IW (N:Nat) (c:AE) (a:Int) (b:Int):Option Bool:=
 cond (decide (b=(-1))) (
 some (decide (a=2))) (
 (ix c.A b).bind λd=>
 some ((decide (d.Ac=a))||(decide (d.Ac=(A9 (a+1))))))
def Co (N:Nat) (a:AE) (g:Option Bool):Nat→Int→Option Bool
 |0,_=>none
 |m+1,d=>
 cond (decide (d<(↑a.F.length:Int))) (
 (ix a.F d).bind λb=>
 (ix a.A b.D).bind λc=>
 (IW N a c.Ac b.B).bind λi=>
 (cond (!i) (some true) ((cond (decide (b.G=4)) ((ix a.A b.B).bind λj=>
 some (decide (j.Ac≠c.Ac))) (some false)).bind λk=>
 some k)).bind λl=>
 cond l (
 some false) (
 Co N a g m (A9 (d+1)))) (
 g)
def Du (N:Nat):Option Bool:=
 some true
def Cq (N:Nat) (a:AE):Option Bool:=
 Co N a (Du N) N 0
def Cp (N:Nat) (a:AE) (c:Option Bool):Nat→Int→Option Bool
 |0,_=>none
 |i+1,b=>
 cond (decide (b<(↑a.A.length:Int))) (
 (ix a.A b).bind λd=>
 (IW N a d.Ac d.Ak).bind λg=>
 cond (!g) (
 some false) (
 Cp N a c i (A9 (b+1)))) (
 c)
def GT (N:Nat) (a:AE):Option Bool:=
 Cp N a (Cq N a) N 0
def Ju (N:Nat) (a:Int):Option Int:=
 some (A9 a)
def Fl (N:Nat) (b:Int) (a:Int):Option Int:=
 cond (decide (a=0)) (
 some 0) (
 cond (decide (a<b)) (
 some 1099511627777) (
 (HT N (IntKind.wrap .u64 b) 1099511627776).bind λd=>
 (FZ N d.1 d.2 (IntKind.wrap .u64 a)).bind λc=>
 cond (decide (c.2≠0)) (
 Ju N (IntKind.wrap .u64 (c.1+1))) (
 Ju N c.1)))
def Dq (N:Nat) (a:Int):Option Int:=
 some a
def ES (N:Nat) (a:(List BU)) (c:Int→Option Int):Nat→Int→Int→Option Int
 |0,_,_=>none
 |m+1,d,b=>
 cond (decide (b<(↑a.length:Int))) (
 (ix a b).bind λg=>
 (ix a (A9 (b-1))).bind λi=>
 (ix a b).bind λj=>
 (ix a (A9 (b-1))).bind λk=>
 (Fl N (A9 (g.W-i.W)) (A9 (j.R-k.R))).bind λl=>
 ES N a c m (max d l) (A9 (b+1))) (
 c d)
def FP (N:Nat) (a:Int) (b:Int→Int→Option Int) (c:Int):Option Int:=
 b c (A9 (a+1))
def C5 (N:Nat) (a:(List (List BU))) (c:Int→Option Int):Nat→Int→Int→Option Int
 |0,_,_=>none
 |i+1,g,b=>
 cond (decide (b<(↑a.length:Int))) (
 (ix a b).bind λd=>
 ES N d (FP N b (C5 N a c i)) N g 1) (
 c g)
def Iw (N:Nat) (a:(List (List BU))):Option Int:=
 C5 N a (Dq N) N 0 0
def CU (N:Nat) (b:Int) (c:Int→(List Int)→Option Bool) (a:List Int):Option Bool:=
 c (A9 (b+1)) a
def Db (N:Nat) (b:List Int) (a:BL) (g:(List Int)→Option Bool) (i:Bool):Option Bool:=
 cond i (
 (ix b a.D).bind λn=>
 (ix b a.D).bind λj=>
 (Fl N a.Y a.T).bind λk=>
 (ix b a.D).bind λo=>
 (ix b a.D).bind λp=>
 g (upd b a.D (A9 (j+k)))) (
 cond (decide (a.G=4)) (
 (ix b a.D).bind λq=>
 (ix b a.D).bind λc=>
 (Fl N a.Y a.T).bind λd=>
 (ix b a.D).bind λs=>
 (ix b a.D).bind λt=>
 (ix (upd b a.D (A9 (c+(A9 (2*d))))) a.B).bind λu=>
 (ix (upd b a.D (A9 (c+(A9 (2*d))))) a.B).bind λl=>
 (Fl N a.As a.An).bind λm=>
 (ix (upd b a.D (A9 (c+(A9 (2*d))))) a.B).bind λv=>
 (ix (upd b a.D (A9 (c+(A9 (2*d))))) a.B).bind λw=>
 g (upd (upd b a.D (A9 (c+(A9 (2*d))))) a.B (A9 (l+(A9 (2*m)))))) (
 g b))
def Hj (N:Nat) (b:Bool→Option Bool) (a:Bool):Option Bool:=
 b a
def BX (N:Nat) (c:AE) (j:(List Int)→Option Bool):Nat→Int→(List Int)→Option Bool
 |0,_,_=>none
 |k+1,i,b=>
 cond (decide (i<(↑c.F.length:Int))) (
 (ix c.F i).bind λa=>
 cond (decide (a.G=0)) (
 (ix b a.D).bind λn=>
 (ix b a.D).bind λd=>
 (Iw N ([a.Aw,a.Ag.Az,a.Ag.Ba]:List (List BU))).bind λg=>
 (ix b a.D).bind λo=>
 (ix b a.D).bind λp=>
 cond (decide (a.B≠(-1))) (
 (ix (upd b a.D (A9 (d+g))) a.B).bind λq=>
 (ix (upd b a.D (A9 (d+g))) a.B).bind λl=>
 (Fl N a.As a.An).bind λm=>
 (ix (upd b a.D (A9 (d+g))) a.B).bind λs=>
 (ix (upd b a.D (A9 (d+g))) a.B).bind λt=>
 CU N i (BX N c j k) (upd (upd b a.D (A9 (d+g))) a.B (A9 (l+m)))) (
 CU N i (BX N c j k) (upd b a.D (A9 (d+g))))) (
 cond (decide (a.G=1)) (
 Db N b a (CU N i (BX N c j k)) (decide (a.G=1))) (
 cond (decide (a.G=5)) (
 Hj N (Db N b a (CU N i (BX N c j k))) (decide (a.G=5))) (
 Hj N (Db N b a (CU N i (BX N c j k))) (decide (a.G=3)))))) (
 j b)
def DZ (N:Nat) (b:List Int) (c:Option Bool):Nat→Int→Option Bool
 |0,_=>none
 |i+1,a=>
 cond (decide (a<(↑b.length:Int))) (
 (ix b a).bind λg=>
 (ix b a).bind λd=>
 cond (decide (1099511627776<d)) (
 some false) (
 DZ N b c i (A9 (a+1)))) (
 c)
def FH (N:Nat):Option Bool:=
 some true
def Ci (N:Nat) (a:List Int):Option Bool:=
 DZ N a (FH N) N 0
def Dc (N:Nat) (a:AE) (b:List Int):Option Bool:=
 BX N a (Ci N) N 0 b
def Da (N:Nat) (b:AE) (d:(List Int)→Option Bool):Nat→Int→(List Int)→Option Bool
 |0,_,_=>none
 |j+1,a,c=>
 cond (decide (a<(↑b.A.length:Int))) (
 (ix b.A a).bind λg=>
 (Fl N g.Y g.T).bind λi=>
 (ix c a).bind λk=>
 (ix c a).bind λl=>
 Da N b d j (A9 (a+1)) (upd c a i)) (
 d c)
def He (N:Nat) (a:AE):Option Bool:=
 chk (KR (↑a.A.length:Int) (↑a.A.length:Int) 8) <|
 Da N a (Dc N a) N 0 (List.replicate ((↑a.A.length:Int):Int).toNat (0:Int))
def Dm (N:Nat) (a:AE) (c:Option Bool):Nat→Int→Option Bool
 |0,_=>none
 |i+1,b=>
 cond (decide (b<(↑a.Ai.length:Int))) (
 (ix a.Ai b).bind λd=>
 (Cc N d.Al 0 1073741824).bind λg=>
 cond (!g) (
 some false) (
 Dm N a c i (A9 (b+1)))) (
 c)
def Fd (N:Nat):Option Bool:=
 some true
def Do (N:Nat) (a:AE):Option Bool:=
 Dm N a (Fd N) N 0
def Dn (N:Nat) (a:AE) (d:Option Bool):Nat→Int→Option Bool
 |0,_=>none
 |t+1,c=>
 cond (decide (c<(↑a.Ab.length:Int))) (
 (ix a.Ab c).bind λb=>
 (E2 N b.Ar (↑a.A.length:Int)).bind λg=>
 (cond (!g) (some true) ((CS N b.Bo).bind λi=>
 some (!i))).bind λj=>
 (cond j (some true) ((Cc N b.Bl 0 24).bind λk=>
 some (!k))).bind λl=>
 (cond l (some true) ((Cc N b.Br 0 1073741824).bind λm=>
 some (!m))).bind λn=>
 (cond n (some true) ((CS N b.Bp).bind λo=>
 some (!o))).bind λp=>
 (cond p (some true) ((Cc N b.Bk 0 128).bind λq=>
 some (!q))).bind λs=>
 cond s (
 some false) (
 Dn N a d t (A9 (c+1)))) (
 d)
def H3 (N:Nat) (a:AE):Option Bool:=
 Dn N a (Do N a) N 0
def FI (N:Nat):Option Bool:=
 some true
def De (N:Nat) (a:AE) (d:Option Bool):Nat→Int→Option Bool
 |0,_=>none
 |o+1,c=>
 cond (decide (c<(↑a.Ae.length:Int))) (
 (ix a.Ae c).bind λb=>
 (Cc N b.G 0 2).bind λg=>
 (cond (!g) (some true) ((Cc N b.S 0 1099511627776).bind λi=>
 some (!i))).bind λj=>
 (cond j (some true) ((Cc N b.Bq 0 1440).bind λk=>
 some (!k))).bind λl=>
 cond l (
 some false) (
 (ix ([(↑a.A.length:Int),a.P,(↑a.F.length:Int)]:List Int) b.G).bind λm=>
 (E2 N b.X m).bind λn=>
 cond (!n) (
 some false) (
 De N a d o (A9 (c+1))))) (
 d)
def Hg (N:Nat) (a:AE):Option Bool:=
 De N a (FI N) N 0
def Fe (N:Nat):Option Bool:=
 some true
def Dp (N:Nat) (a:AE) (d:Option Bool):Nat→Int→Option Bool
 |0,_=>none
 |u+1,c=>
 cond (decide (c<(↑a.Af.length:Int))) (
 (ix a.Af c).bind λb=>
 (E2 N b.D (↑a.Ab.length:Int)).bind λg=>
 (cond (!g) (some true) ((E2 N b.B (A9 ((↑a.Ab.length:Int)+(↑a.Ai.length:Int)))).bind λi=>
 some (!i))).bind λj=>
 (cond (j||(decide (b.D=b.B))) (some true) ((Cc N b.Bs 1 24).bind λk=>
 some (!k))).bind λl=>
 (cond l (some true) ((Cc N b.Bt 0 1073741824).bind λm=>
 some (!m))).bind λn=>
 (cond n (some true) ((CS N b.Bj).bind λo=>
 some (!o))).bind λp=>
 cond p (
 some false) (
 (cond ((decide (b.Bi=(-1)))&&(decide (b.Bj≠0))) (some true) ((cond (decide (b.Bi≠(-1))) ((E2 N b.Bi (↑a.A.length:Int)).bind λq=>
 some (!q)) (some false)).bind λs=>
 some s)).bind λt=>
 cond t (
 some false) (
 Dp N a d u (A9 (c+1))))) (
 d)
def H4 (N:Nat) (a:AE):Option Bool:=
 Dp N a (Fe N) N 0
def Fm (N:Nat) (a:AE):Option Bool:=
 (IU N a).bind λv=>
 (cond v ((I8 N a).bind λb=>
 some b) (some false)).bind λc=>
 (cond c ((Hf N a).bind λd=>
 some d) (some false)).bind λg=>
 (cond g ((Ev N a).bind λi=>
 some i) (some false)).bind λj=>
 (cond j ((GT N a).bind λk=>
 some k) (some false)).bind λl=>
 (cond l ((He N a).bind λm=>
 some m) (some false)).bind λn=>
 (cond n ((H3 N a).bind λo=>
 some o) (some false)).bind λp=>
 (cond p ((Hg N a).bind λq=>
 some q) (some false)).bind λs=>
 (cond s ((H4 N a).bind λt=>
 some t) (some false)).bind λu=>
 some u
def Gz (N:Nat):Option Bool:=
 some true
def FM (N:Nat) (a:(List Int)) (b:(List Int)) (c:Option Bool):Nat→Int→Option Bool
 |0,_=>none
 |j+1,d=>
 cond (decide (d<(↑a.length:Int))) (
 (ix a d).bind λg=>
 (ix b d).bind λi=>
 cond (decide (g≠i)) (
 some false) (
 FM N a b c j (A9 (d+1)))) (
 c)
def D9 (N:Nat) (a:(List Int)) (b:(List Int)):Option Bool:=
 cond (decide ((↑a.length:Int)≠(↑b.length:Int))) (
 some false) (
 FM N a b (Gz N) N 0)
def Gj (N:Nat):Option Bool:=
 some true
def Eu (N:Nat) (a:(List (List Int))) (b:(List (List Int))) (c:Option Bool):Nat→Int→Option Bool
 |0,_=>none
 |k+1,d=>
 cond (decide (d<(↑a.length:Int))) (
 (ix a d).bind λg=>
 (ix b d).bind λi=>
 (D9 N g i).bind λj=>
 cond (!j) (
 some false) (
 Eu N a b c k (A9 (d+1)))) (
 c)
def Iu (N:Nat) (a:(List (List Int))) (b:(List (List Int))):Option Bool:=
 cond (decide ((↑a.length:Int)≠(↑b.length:Int))) (
 some false) (
 Eu N a b (Gj N) N 0)
def Gi (N:Nat):Option Bool:=
 some true
def Et (N:Nat) (a:(List AO)) (b:(List AO)) (d:Option Bool):Nat→Int→Option Bool
 |0,_=>none
 |q+1,c=>
 cond (decide (c<(↑a.length:Int))) (
 (ix a c).bind λg=>
 (ix b c).bind λi=>
 (cond (decide (g.Ao≠i.Ao)) (some true) ((ix a c).bind λj=>
 (ix b c).bind λk=>
 some (decide (j.B≠k.B)))).bind λl=>
 (cond l (some true) ((ix a c).bind λm=>
 (ix b c).bind λn=>
 (D9 N m.K n.K).bind λo=>
 some (!o))).bind λp=>
 cond p (
 some false) (
 Et N a b d q (A9 (c+1)))) (
 d)
def It (N:Nat) (a:(List AO)) (b:(List AO)):Option Bool:=
 cond (decide ((↑a.length:Int)≠(↑b.length:Int))) (
 some false) (
 Et N a b (Gi N) N 0)
def Gh (N:Nat):Option Bool:=
 some true
def Es (N:Nat) (a:(List AQ)) (b:(List AQ)) (c:Option Bool):Nat→Int→Option Bool
 |0,_=>none
 |j+1,d=>
 cond (decide (d<(↑a.length:Int))) (
 (ix a d).bind λg=>
 (ix b d).bind λi=>
 cond (!(Zc g.v i.v)) (
 some false) (
 Es N a b c j (A9 (d+1)))) (
 c)
def Is (N:Nat) (a:(List AQ)) (b:(List AQ)):Option Bool:=
 cond (decide ((↑a.length:Int)≠(↑b.length:Int))) (
 some false) (
 Es N a b (Gh N) N 0)
def I7 (N:Nat) (a:AF) (b:AF):Option Bool:=
 (Iu N a.E b.E).bind λg=>
 (D9 N a.M b.M).bind λi=>
 (It N a.H b.H).bind λj=>
 (D9 N a.N b.N).bind λk=>
 (D9 N a.L b.L).bind λl=>
 (cond ((((((decide (a.C=b.C))&&g)&&i)&&j)&&k)&&l) ((Is N a.O b.O).bind λc=>
 some c) (some false)).bind λd=>
 some d
def KB (N:Nat) (a:Int) (b:List (List Int)) (c:List Int) (d:List AO) (g:List AQ) (i:List Int) (j:List Int):Option AF:=
 some (⟨a,b,c,d,g,i,j⟩:AF)
def Hl (N:Nat) (c:AE) (b:(List Cs)) (g:Int→(List (List Int))→(List Int)→(List AO)→(List AQ)→(List Int)→(List Int)→Option AF):Nat→Int→Int→(List (List Int))→(List Int)→(List AO)→(List AQ)→(List Int)→(List Int)→Option AF
 |0,_,_,_,_,_,_,_,_=>none
 |q+1,d,i,j,k,l,m,n,o=>
 cond (decide (d<(↑b.length:Int))) (
 (ix b d).bind λp=>
 (Em N c (⟨i,j,k,l,m,n,o⟩:AF) p).bind λa=>
 Hl N c b g q (A9 (d+1)) a.1.C a.1.E a.1.M a.1.H a.1.O a.1.N a.1.L) (
 g i j k l m n o)
def LM (N:Nat) (c:AE) (a:AF) (b:(List Cs)):Option AF:=
 Hl N c b (KB N) N 0 a.C a.E a.M a.H a.O a.N a.L
def Lc (N:Nat):Option Bool:=
 some true
def KA (N:Nat) (a:(List Int)) (c:Option Bool):Nat→Int→Option Bool
 |0,_=>none
 |g+1,b=>
 cond (decide (b<(↑a.length:Int))) (
 (ix a b).bind λd=>
 cond ((decide (d<0))||(decide (2305843009213693952<d))) (
 some false) (
 KA N a c g (A9 (b+1)))) (
 c)
def KX (N:Nat) (b:AE) (a:(List Int)):Option Bool:=
 cond (decide ((↑a.length:Int)≠(↑b.I.length:Int))) (
 some false) (
 KA N a (Lc N) N 0)
def Hy (N:Nat) (a:AE) (b:AF) (g:Option Bool):Nat→Int→Option Bool
 |0,_=>none
 |l+1,d=>
 cond (decide (d<(↑b.H.length:Int))) (
 (ix b.H d).bind λc=>
 (Hk N a c.B).bind λi=>
 (cond (!i) (some true) ((KX N a c.K).bind λj=>
 some (!j))).bind λk=>
 cond k (
 some false) (
 Hy N a b g l (A9 (d+1)))) (
 g)
def I4 (N:Nat):Option Bool:=
 some true
def I5 (N:Nat) (a:AE) (b:AF):Option Bool:=
 Hy N a b (I4 N) N 0
def Hz (N:Nat) (b:AE) (a:AF) (d:Option Bool):Nat→Int→Option Bool
 |0,_=>none
 |j+1,c=>
 cond (decide (c<(↑a.E.length:Int))) (
 (ix a.E c).bind λg=>
 (KX N b g).bind λi=>
 cond (!i) (
 some false) (
 Hz N b a d j (A9 (c+1)))) (
 d)
def KK (N:Nat) (a:AE) (b:AF):Option Bool:=
 (cond (decide ((↑b.E.length:Int)≠(↑a.A.length:Int))) (some true) ((KX N a b.N).bind λc=>
 some (!c))).bind λd=>
 (cond d (some true) ((KX N a b.L).bind λg=>
 some (!g))).bind λi=>
 cond i (
 some false) (
 Hz N a b (I5 N a b) N 0)
def Mi (N:Nat) (b:AE) (a:AI):Option Bool:=
 (KX N b a.K).bind λc=>
 (cond c ((cond (decide (a.D=(-1))) (some true) ((Hk N b a.D).bind λd=>
 some d)).bind λg=>
 some g) (some false)).bind λi=>
 (cond i ((cond (decide (a.B=(-1))) (some true) ((Hk N b a.B).bind λj=>
 some j)).bind λk=>
 some k) (some false)).bind λl=>
 some l
def Mh (N:Nat) (p0_w:AJ) (a:Int):Option AJ:=
 (some (A9 (p0_w.hi+(A9 ((LE p0_w.lo (IntKind.wrap .u64 a) 0).2))))).bind λb=>
 some (⟨b,((LE p0_w.lo (IntKind.wrap .u64 a) 0).1)⟩:AJ)
def G2 (N:Nat) (b:Int) (a:Int) (c:(List Int)):Nat→Int→((List (AC×AJ)))→Option (List (AC×AJ))
 |0,_,_=>none
 |l+1,d,g=>
 cond (decide (d<(↑c.length:Int))) (
 (ix c d).bind λi=>
 (Mh N (⟨(A9 (((Na (λk:AC=>Value.agg (AC.v k).toArray) g (⟨b,a,d⟩:AC)).getD (⟨0,0⟩:AJ)).hi)),(IntKind.wrap .u64 (((Na (λk:AC=>Value.agg (AC.v k).toArray) g (⟨b,a,d⟩:AC)).getD (⟨0,0⟩:AJ)).lo))⟩:AJ) i).bind λj=>
 G2 N b a c l (A9 (d+1)) (Ra (λk:AC=>Value.agg (AC.v k).toArray) g (⟨b,a,d⟩:AC) j)) (
 some g)
def GC (N:Nat) (d:(List (AC×AJ))) (b:Int) (a:Int) (c:(List Int)):Option (List (AC×AJ)):=
 G2 N b a c N 0 d
def EF (N:Nat) (a:AF) (c:((List (AC×AJ)))→Option (List (AC×AJ))):Nat→Int→((List (AC×AJ)))→Option (List (AC×AJ))
 |0,_,_=>none
 |j+1,b,d=>
 cond (decide (b<(↑a.H.length:Int))) (
 (ix a.H b).bind λg=>
 (GC N d 0 g.B g.K).bind λi=>
 EF N a c j (A9 (b+1)) i) (
 c d)
def F5 (N:Nat) (a:AF) (c:(List (AC×AJ))):Option (List (AC×AJ)):=
 (GC N c 1 (-1) a.N).bind λd=>
 (GC N d 2 (-1) a.L).bind λb=>
 some b
def F6 (N:Nat) (a:AF) (b:(List (AC×AJ))):Option (List (AC×AJ)):=
 EF N a (F5 N a) N 0 b
def EG (N:Nat) (a:AF) (c:((List (AC×AJ)))→Option (List (AC×AJ))):Nat→Int→((List (AC×AJ)))→Option (List (AC×AJ))
 |0,_,_=>none
 |j+1,b,d=>
 cond (decide (b<(↑a.E.length:Int))) (
 (ix a.E b).bind λg=>
 (GC N d 0 b g).bind λi=>
 EG N a c j (A9 (b+1)) i) (
 c d)
def IH (N:Nat) (b:(List (AC×AJ))) (a:AF):Option (List (AC×AJ)):=
 EG N a (F6 N a) N 0 b
def Mg (N:Nat) (p0_w:AJ) (a:Int):Option AJ:=
 (some (A9 (p0_w.hi-(A9 ((LD p0_w.lo (IntKind.wrap .u64 a) 0).2))))).bind λb=>
 some (⟨b,((LD p0_w.lo (IntKind.wrap .u64 a) 0).1)⟩:AJ)
def G3 (N:Nat) (b:Int) (a:Int) (c:(List Int)):Nat→Int→((List (AC×AJ)))→Option (List (AC×AJ))
 |0,_,_=>none
 |l+1,d,g=>
 cond (decide (d<(↑c.length:Int))) (
 (ix c d).bind λi=>
 (Mg N (⟨(A9 (((Na (λk:AC=>Value.agg (AC.v k).toArray) g (⟨b,a,d⟩:AC)).getD (⟨0,0⟩:AJ)).hi)),(IntKind.wrap .u64 (((Na (λk:AC=>Value.agg (AC.v k).toArray) g (⟨b,a,d⟩:AC)).getD (⟨0,0⟩:AJ)).lo))⟩:AJ) i).bind λj=>
 G3 N b a c l (A9 (d+1)) (Ra (λk:AC=>Value.agg (AC.v k).toArray) g (⟨b,a,d⟩:AC) j)) (
 some g)
def D8 (N:Nat) (d:(List (AC×AJ))) (b:Int) (a:Int) (c:(List Int)):Option (List (AC×AJ)):=
 G3 N b a c N 0 d
def ED (N:Nat) (a:AF) (c:((List (AC×AJ)))→Option (List (AC×AJ))):Nat→Int→((List (AC×AJ)))→Option (List (AC×AJ))
 |0,_,_=>none
 |j+1,b,d=>
 cond (decide (b<(↑a.H.length:Int))) (
 (ix a.H b).bind λg=>
 (D8 N d 0 g.B g.K).bind λi=>
 ED N a c j (A9 (b+1)) i) (
 c d)
def Fx (N:Nat) (a:AF) (c:(List (AC×AJ))):Option (List (AC×AJ)):=
 (D8 N c 1 (-1) a.N).bind λd=>
 (D8 N d 2 (-1) a.L).bind λb=>
 some b
def Fy (N:Nat) (a:AF) (b:(List (AC×AJ))):Option (List (AC×AJ)):=
 ED N a (Fx N a) N 0 b
def EE (N:Nat) (a:AF) (c:((List (AC×AJ)))→Option (List (AC×AJ))):Nat→Int→((List (AC×AJ)))→Option (List (AC×AJ))
 |0,_,_=>none
 |j+1,b,d=>
 cond (decide (b<(↑a.E.length:Int))) (
 (ix a.E b).bind λg=>
 (D8 N d 0 b g).bind λi=>
 EE N a c j (A9 (b+1)) i) (
 c d)
def IG (N:Nat) (b:(List (AC×AJ))) (a:AF):Option (List (AC×AJ)):=
 EE N a (Fy N a) N 0 b
def H7 (N:Nat) (a:AI) (b:(List (AC×AJ))):Option (List (AC×AJ)):=
 cond (decide (a.D=(-1))) (
 (D8 N b 1 (-1) a.K).bind λc=>
 some c) (
 (GC N b 0 a.D a.K).bind λd=>
 some d)
def KY (N:Nat) (b:(List (AC×AJ))) (a:AI):Option (List (AC×AJ)):=
 cond (decide (a.B=(-1))) (
 (D8 N b 2 (-1) a.K).bind λc=>
 H7 N a c) (
 (D8 N b 0 a.B a.K).bind λd=>
 H7 N a d)
def Im (N:Nat) (a:(List AI)) (d:((List (AC×AJ)))→Option Bool):Nat→Int→((List (AC×AJ)))→Option Bool
 |0,_,_=>none
 |j+1,b,c=>
 cond (decide (b<(↑a.length:Int))) (
 (ix a b).bind λg=>
 (KY N c g).bind λi=>
 Im N a d j (A9 (b+1)) i) (
 d c)
def Jp (N:Nat) (a:AC×AJ):Option Bool:=
 cond (!(Zc (⟨(A9 a.2.hi),(IntKind.wrap .u64 a.2.lo)⟩:AJ).v (⟨0,0⟩:AJ).v)) (
 some false) (
 none)
def Jq (N:Nat):Option Bool:=
 some true
def Jr (N:Nat) (a:(List (AC×AJ))):Option Bool:=
 cond (List.all a (λe=>(Jp N e).isNone)) (Jq N) (some false)
def Js (N:Nat) (b:AF) (c:AF) (a:(List AI)):Option Bool:=
 (IH N ([]:(List (AC×AJ))) c).bind λd=>
 (IG N d b).bind λg=>
 Im N a (Jr N) N 0 g
def In (N:Nat) (b:AE) (a:(List AI)) (d:Option Bool):Nat→Int→Option Bool
 |0,_=>none
 |j+1,c=>
 cond (decide (c<(↑a.length:Int))) (
 (ix a c).bind λg=>
 (Mi N b g).bind λi=>
 cond (!i) (
 some false) (
 In N b a d j (A9 (c+1)))) (
 d)
def Le (N:Nat) (b:AE) (c:AF) (d:AF) (a:(List AI)):Option Bool:=
 (KK N b c).bind λg=>
 (cond (!g) (some true) ((KK N b d).bind λi=>
 some (!i))).bind λj=>
 cond j (
 some false) (
 In N b a (Js N c d a) N 0)
def ER (N:Nat):Option Bool:=
 (J0 N).bind λd=>
 (N2 N d 5).bind λc=>
 (Jo N d c Rc).bind λa=>
 (QG N Rb 0 2 6).bind λb=>
 (N3 N d ByteArray.empty).bind λj=>
 (NC N c).bind λk=>
 (N3 N d k).bind λg=>
 (Jn N d a.2.1 1).bind λi=>
 (Fm N d).bind λl=>
 cond (((((((!l)||(decide ((↑a.1.length:Int)≠1)))||(decide ((↑a.2.2.length:Int)≠1)))||(decide ((↑a.2.1.length:Int)≠3)))||j.2)||(!g.2))||(decide ((↑b.length:Int)≠4))) (
 some false) (
 (ix a.1 0).bind λZ=>
 (ix a.1 0).bind λm=>
 (cond (decide ((↑m.E.length:Int)≠3)) (some true) ((ix a.1 0).bind λaa=>
 (ix a.1 0).bind λn=>
 (ix n.E 0).bind λo=>
 some (decide ((↑o.length:Int)≠1)))).bind λp=>
 (cond p (some true) ((ix a.1 0).bind λab=>
 (ix a.1 0).bind λq=>
 some (decide ((↑q.L.length:Int)≠1)))).bind λs=>
 cond s (
 some false) (
 (I7 N g.1 c).bind λt=>
 (cond t ((LM N d c []).bind λu=>
 (I7 N u c).bind λv=>
 some v) (some false)).bind λw=>
 (cond w ((ix a.1 0).bind λx=>
 (Le N d c x a.2.1).bind λy=>
 some y) (some false)).bind λz=>
 (cond z ((ix a.1 0).bind λA=>
 (xS a.2.1 1).bind λB=>
 (Le N d c A B).bind λC=>
 some (!C)) (some false)).bind λD=>
 (cond D ((ix a.1 0).bind λF=>
 (ix F.E 0).bind λG=>
 (ix G 0).bind λH=>
 some (decide (H=63))) (some false)).bind λI=>
 (cond I ((ix a.1 0).bind λJ=>
 (ix J.L 0).bind λK=>
 some (decide (K=15))) (some false)).bind λM=>
 (cond M ((ix b 1).bind λac=>
 (ix b 1).bind λQ=>
 some (decide (Q=15))) (some false)).bind λU=>
 (cond U ((ix b 3).bind λad=>
 (ix b 3).bind λV=>
 some (decide (V=7))) (some false)).bind λW=>
 (cond W (some (decide (i.1=7))) (some false)).bind λX=>
 (cond X (some (decide (i.2=0))) (some false)).bind λY=>
 some Y))
def CT (N:Nat) (a:AE) (b:AF):Option Bool:=
 (Fm N a).bind λc=>
 (cond c ((Jm N a b).bind λd=>
 some d) (some false)).bind λg=>
 some g
def Ch (N:Nat) (a:(List Cs)) (d:Option Bool):Nat→Int→Option Bool
 |0,_=>none
 |g+1,c=>
 cond (decide (c<(↑a.length:Int))) (
 (ix a c).bind λb=>
 cond (((((decide (20<(↑b.Aa.length:Int)))||(decide (20<(↑b.Ah.length:Int))))||(decide (20<(↑b.Aj.length:Int))))||(decide (20<(↑b.Z.length:Int))))||(decide (20<(↑b.Aq.length:Int)))) (
 some false) (
 Ch N a d g (A9 (c+1)))) (
 d)
def FO (N:Nat) (b:AE) (c:AF) (a:(List Cs)):Option Bool:=
 cond (((((decide (6<(↑b.A.length:Int)))||(decide (6<(↑b.F.length:Int))))||(decide (20<(↑c.H.length:Int))))||(decide (12<(↑a.length:Int))))||(decide (16777196<c.C))) (
 some false) (
 Ch N a (CT N b c) N 0)
def G5 (N:Nat) (a:Int):Option Int:=
 some a
def Io (N:Nat) (a:Int) (b:Int→Int→Option Int) (c:Int):Option Int:=
 b c (A9 (a+1))
def EK (N:Nat) (b:(List AO)) (c:AE) (a:Int) (i:Int→Option Int):Nat→Int→Int→Option Int
 |0,_,_=>none
 |o+1,j,d=>
 cond (decide (d<(↑b.length:Int))) (
 (ix b d).bind λg=>
 (cond ((decide (0≤g.B))&&(decide (g.B<(↑c.A.length:Int)))) ((ix c.A g.B).bind λk=>
 some (decide (k.Ac=a))) (some false)).bind λl=>
 cond l (
 (Cr N g.K).bind λm=>
 (Er N j m).bind λn=>
 Io N d (EK N b c a i o) n) (
 Io N d (EK N b c a i o) j)) (
 i j)
def KD (N:Nat) (b:(List AO)) (c:AE) (a:Int):Option Int:=
 EK N b c a (G5 N) N 0 0
def Gk (N:Nat) (a:List Int):Option (List Int):=
 some a
def IX (N:Nat) (a:Int) (b:(List Int)→Int→Option (List Int)) (c:List Int):Option (List Int):=
 b c (A9 (a+1))
def D0 (N:Nat) (a:AE) (b:Int) (g:(List Int)→Option (List Int)):Nat→(List Int)→Int→Option (List Int)
 |0,_,_=>none
 |j+1,d,c=>
 cond (decide (c<(↑a.A.length:Int))) (
 (ix a.A c).bind λi=>
 cond (decide (i.Ac=b)) (
 chk (I2 (d.length+1) 8) <|
 IX N c (D0 N a b g j) (d++([c]:List Int))) (
 IX N c (D0 N a b g j) d)) (
 g d)
def Jf (N:Nat) (a:AE) (b:Int):Option (List Int):=
 D0 N a b (Gk N) N ([]:List Int) 0
def Dr (N:Nat) (a:Int):Option Int:=
 some a
def GQ (N:Nat) (a:Int) (b:Int→Int→Option Int) (c:Int):Option Int:=
 b c (A9 (a+1))
def Cn (N:Nat) (c:AF) (a:(List Int)) (d:Int→Option Int):Nat→Int→Int→Option Int
 |0,_,_=>none
 |o+1,g,b=>
 cond (decide (b<(↑a.length:Int))) (
 (ix a b).bind λp=>
 (ix a b).bind λi=>
 (cond (decide (0≤i)) ((ix a b).bind λq=>
 (ix a b).bind λj=>
 some (decide (j<(↑c.E.length:Int)))) (some false)).bind λk=>
 cond k (
 (ix a b).bind λs=>
 (ix a b).bind λl=>
 (ix c.E l).bind λm=>
 (Cr N m).bind λn=>
 GQ N b (Cn N c a d o) (A9 (g+n))) (
 GQ N b (Cn N c a d o) g)) (
 d g)
def GR (N:Nat) (b:AE) (c:AF) (a:Int):Option Int:=
 (KD N c.H b a).bind λd=>
 (Jf N b a).bind λg=>
 Cn N c g (Dr N) N d 0
def CF (N:Nat) (a:Bool):Option Bool:=
 some a
def Dt (N:Nat) (j:AE) (m:Int) (b:Int) (c:Int) (a:AI) (g:Int) (i:Int→Int→Int→Option Bool) (d:Int):Option Bool:=
 (cond ((decide (0≤a.D))&&(decide (a.B=(-1)))) ((ix j.A a.D).bind λk=>
 some (decide (k.Ac=m))) (some false)).bind λl=>
 cond l (
 cond (decide (a.Ap=(-3))) (
 i d (A9 (b+g)) c) (
 i d b (A9 (c+g)))) (
 i d b c)
def DF (N:Nat) (a:Int) (g:Int→Int→Int→Int→Option Bool) (b:Int) (c:Int) (d:Int):Option Bool:=
 g b c d (A9 (a+1))
def BW (N:Nat) (b:AE) (d:(List AF)×(List AI)×(List (List Int))) (g:Int) (m:Int→Int→Int→Option Bool):Nat→Int→Int→Int→Int→Option Bool
 |0,_,_,_,_=>none
 |p+1,i,j,k,c=>
 cond (decide (c<(↑d.2.1.length:Int))) (
 (ix d.2.1 c).bind λq=>
 (ix d.2.1 c).bind λa=>
 (Cr N a.K).bind λl=>
 cond (((((decide (a.D<(-1)))||(decide (a.B<(-1))))||(decide ((↑b.A.length:Int)≤a.D)))||(decide ((↑b.A.length:Int)≤a.B)))||((decide (a.D=(-1)))&&(decide (a.B=(-1))))) (
 some false) (
 (cond (decide (a.D=(-1))) ((ix b.A a.B).bind λn=>
 some (decide (n.Ac=g))) (some false)).bind λo=>
 cond o (
 Dt N b g j k a l (DF N c (BW N b d g m p)) (A9 (i+l))) (
 Dt N b g j k a l (DF N c (BW N b d g m p)) i))) (
 m i j k)
def DG (N:Nat) (c:AE) (g:AF) (n:AF) (o:Int) (b:Int) (a:Int×Int) (p:Int→Int→Option Bool) (i:Int) (j:Int) (d:Int):Option Bool:=
 (cond (decide (a.1≠o)) (some true) ((GR N c n b).bind λk=>
 (GR N c g b).bind λl=>
 some (decide ((A9 (k-l))≠(A9 ((A9 ((A9 (a.1-a.2))+i))-j)))))).bind λm=>
 cond ((m||((decide (b=2))&&(decide (a.2≠d))))||((decide (b<2))&&(decide (d≠0)))) (
 some false) (
 p a.2 (A9 (b+1)))
def B3 (N:Nat) (a:AE) (c:AF) (d:(List AF)×(List AI)×(List (List Int))) (g:AF) (i:Option Bool):Nat→Int→Int→Option Bool
 |0,_,_=>none
 |l+1,k,b=>
 cond (decide (b<3)) (
 (Jn N a d.2.1 b).bind λj=>
 BW N a d b (DG N a c g k b j (B3 N a c d g i l)) N 0 0 0 0) (
 i)
def GS (N:Nat) (b:AE) (c:AF) (a:(List Cs)):Option Bool:=
 (ER N).bind λd=>
 (FO N b c a).bind λg=>
 cond (!g) (
 some d) (
 (Jo N b c a).bind λi=>
 (LM N b c a).bind λj=>
 B3 N b c i j (CF N d) N 0 0)
end Go.Proofs.YtedgiljmffngoaaGreat
