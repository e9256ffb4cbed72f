import Derived.Test.YtedgiljmffngoaaGreatHInst
import Derived.Test.YtedgiljmffngoaaGreatHCore31
import Derived.Test.YtedgiljmffngoaaGreatRows
import Derived.Shelf.GgSortFunc.Whole
import Derived.Shelf.GgSortFunc.Tiny
import Derived.Deep.QuietTactic
import Derived.WalkKit
import Derived.Sort.LotA
namespace Go.Proofs.YtedgiljmffngoaaGreat
set_option linter.all false
open Go.RowKit
def mE (N:Nat) (s:ByteArray):Option AW:=some ⟨s,false⟩
def J7 (N:Nat):Option AF:=
 some (⟨(ByteArray.mk #[120]),Pg,0,Pf,[],[],[],[],[],([1000,1000,1000]:List Int),0⟩:AF)
def Co (N:Nat) (a:(List Int)):Option (List Int):=
 chk (Ih (([]:List Int).length+a.length) 8) <|
 some (([]:List Int)++a)
def KP (N:Nat) (a:AF) (b:Int) (c:List (List Int)):Option AE:=
 some (⟨b,c,(List.replicate ((↑a.A.length:Int):Int).toNat (0:Int)),[],(List.replicate ((↑a.G.length:Int):Int).toNat ((⟨0,0,false,false⟩:AT):AT)),(List.replicate ((↑a.F.length:Int):Int).toNat (0:Int)),(List.replicate ((↑a.F.length:Int):Int).toNat (0:Int))⟩:AE)
def JL (N:Nat) (c:AF) (d:(List (List Int))→Option AE):Nat→Int→(List (List Int))→Option AE
 |0,_,_=>none
 |l+1,a,b=>
 cond (decide (a<(↑c.A.length:Int))) (
 (ix c.A a).bind λg=>
 (Co N g.Be).bind λi=>
 (ix b a).bind λj=>
 (ix b a).bind λk=>
 JL N c d l (BC (a+1)) (upd b a i)) (
 d b)
def N4 (N:Nat) (a:AF) (b:Int):Option AE:=
 chk (KX (↑a.A.length:Int) (↑a.A.length:Int) 24) <|
 chk (KX (↑a.A.length:Int) (↑a.A.length:Int) 8) <|
 chk (KX (↑a.G.length:Int) (↑a.G.length:Int) 24) <|
 chk (KX (↑a.F.length:Int) (↑a.F.length:Int) 8) <|
 chk (KX (↑a.F.length:Int) (↑a.F.length:Int) 8) <|
 JL N a (KP N a b) N 0 (List.replicate ((↑a.A.length:Int):Int).toNat ([]:(List Int)))
def CR (N:Nat) (a:(List AT)):Option (List AT):=
 chk (Ih (([]:List AT).length+a.length) 24) <|
 some (([]:List AT)++a)
def FJ (N:Nat) (a:AE) (d:List (List Int)):Option AE:=
 (Co N a.M).bind λg=>
 (CR N a.O).bind λi=>
 (Co N a.N).bind λb=>
 (Co N a.L).bind λc=>
 some (⟨a.B,d,g,a.E,i,b,c⟩:AE)
def FI (N:Nat) (b:AE) (d:(List (List Int))→Option AE):Nat→Int→(List (List Int))→Option AE
 |0,_,_=>none
 |j+1,a,c=>
 cond (decide (a<(↑b.D.length:Int))) (
 (ix b.D a).bind λg=>
 (Co N g).bind λi=>
 (ix c a).bind λk=>
 (ix c a).bind λl=>
 FI N b d j (BC (a+1)) (upd c a i)) (
 d c)
def KF (N:Nat) (a:AE):Option AE:=
 chk (KX (↑a.D.length:Int) (↑a.D.length:Int) 24) <|
 FI N a (FJ N a) N 0 (List.replicate ((↑a.D.length:Int):Int).toNat ([]:(List Int)))
def Gj (N:Nat) (b:Int) (a:Int):Option Bool:=
 some ((decide (0≤b))&&(decide (b<a)))
def GF (N:Nat) (a:AT) (b:Bool) (c:Bool):Option AT:=
 some (⟨a.V,a.X,b,c⟩:AT)
def G1 (N:Nat) (d:BO) (a:AT) (b:Int) (c:Bool→Bool→Option AT) (g:Bool):Option AT:=
 cond g (
 cond (decide (d.H=5)) (
 c a.At (decide (b=2))) (
 c a.At a.Am)) (
 c a.At a.Am)
def Ht (N:Nat) (c:BO) (b:AT) (a:Int):Option AT:=
 cond (decide (a=0)) (
 GF N b true b.Am) (
 cond (decide (a=1)) (
 GF N b false b.Am) (
 cond (decide (a=2)) (
 G1 N c b a (GF N b) (decide (a=2))) (
 G1 N c b a (GF N b) (decide (a=3)))))
def Hz (N:Nat) (c:Int) (b:Int) (a:Int):Option Int:=
 cond (decide (c<b)) (
 some b) (
 cond (decide (a<c)) (
 some a) (
 some c))
def Lh (N:Nat) (a:AT) (b:Int):Option AT:=
 some ({ a with X:=b}:AT)
def JD (N:Nat) (c:BO) (b:AT) (a:Int):Option AT:=
 cond (decide (c.U≠0)) (
 (Hz N a 0 c.U).bind λd=>
 Lh N b d) (
 Lh N b b.X)
def GY (N:Nat) (b:Int) (a:Int):Option Int:=
 cond ((decide (a<0))&&(decide ((BC (9223372036854775807+a))<b))) (
 some 9223372036854775807) (
 cond ((decide (0<a))&&(decide (b<(BC ((-9223372036854775808)+a))))) (
 some (-9223372036854775808)) (
 some (BC (b-a))))
def Fm (N:Nat) (b:Int) (a:Int):Option Int:=
 cond ((decide (0<a))&&(decide ((BC (9223372036854775807-a))<b))) (
 some 9223372036854775807) (
 cond ((decide (a<0))&&(decide (b<(BC ((-9223372036854775808)-a))))) (
 some (-9223372036854775808)) (
 some (BC (b+a))))
def Hy (N:Nat) (b:BO) (a:AT):Option AT:=
 cond a.At (
 some a) (
 (GY N a.X a.V).bind λc=>
 (GY N 0 b.Ad).bind λd=>
 (Hz N c d b.Ad).bind λg=>
 (Fm N a.V g).bind λi=>
 some ({ a with V:=i}:AT))
def GP (N:Nat) (a:Int) (b:Int→(List AT)→Option (List AT)) (c:List AT):Option (List AT):=
 b (BC (a+1)) c
def Cd (N:Nat) (p0_w:AN) (g:(List AT)→Option (List AT)):Nat→Int→(List AT)→Option (List AT)
 |0,_,_=>none
 |m+1,d,c=>
 cond (decide (d<(↑p0_w.in_.Ak.length:Int))) (
 (ix p0_w.in_.Ak d).bind λa=>
 (Gj N a.As (↑p0_w.b.G.length:Int)).bind λi=>
 cond i (
 (ix p0_w.b.G a.As).bind λj=>
 (ix c a.As).bind λn=>
 (ix c a.As).bind λk=>
 (JD N j k a.X).bind λl=>
 (ix c a.As).bind λo=>
 (ix c a.As).bind λp=>
 GP N d (Cd N p0_w g m) (upd c a.As l)) (
 GP N d (Cd N p0_w g m) c)) (
 g c)
def DF (N:Nat) (p0_w:AN):Nat→Int→(List AT)→Option (List AT)
 |0,_,_=>none
 |m+1,a,c=>
 cond (decide (a<(↑p0_w.b.G.length:Int))) (
 (ix p0_w.b.G a).bind λd=>
 (ix c a).bind λj=>
 (ix c a).bind λg=>
 (Hy N d g).bind λi=>
 (ix c a).bind λk=>
 (ix c a).bind λl=>
 DF N p0_w m (BC (a+1)) (upd c a i)) (
 some c)
def Cy (N:Nat) (p0_w:AN) (a:List AT):Option (List AT):=
 DF N p0_w N 0 a
def Cz (N:Nat) (p0_w:AN) (a:List AT):Option (List AT):=
 Cd N p0_w (Cy N p0_w) N 0 a
def GQ (N:Nat) (c:Int) (a:Int→(List AT)→Option (List AT)) (b:List AT):Option (List AT):=
 a (BC (c+1)) b
def Ce (N:Nat) (p0_w:AN) (c:(List AT)→Option (List AT)):Nat→Int→(List AT)→Option (List AT)
 |0,_,_=>none
 |m+1,g,d=>
 cond (decide (g<(↑p0_w.in_.Ai.length:Int))) (
 (ix p0_w.in_.Ai g).bind λa=>
 (Gj N a.As (↑p0_w.b.G.length:Int)).bind λi=>
 cond i (
 (ix p0_w.b.G a.As).bind λj=>
 (ix d a.As).bind λn=>
 (ix d a.As).bind λk=>
 (Ht N j k a.H).bind λl=>
 (ix d a.As).bind λo=>
 (ix d a.As).bind λp=>
 GQ N g (Ce N p0_w c m) (upd d a.As l)) (
 GQ N g (Ce N p0_w c m) d)) (
 c d)
def Gk (N:Nat) (p0_w:AN):Option (List AT):=
 Ce N p0_w (Cz N p0_w) N 0 p0_w.s.O
def Kc (N:Nat) (b:(List Int)) (a:Int):Option Int:=
 (cond ((decide (a<0))||(decide ((↑b.length:Int)≤a))) (some true) ((ix b a).bind λd=>
 some (decide (d<0)))).bind λg=>
 cond g (
 some 0) (
 (ix b a).bind λc=>
 some c)
def Kw (N:Nat) (a:List Int):Option (List Int):=
 some a
def Lu (N:Nat) (a:(List Int)) (b:Int) (c:Int) (d:Int):Option (List Int):=
 chk (KX (↑a.length:Int) (↑a.length:Int) 8) <|
 (Kc N a b).bind λg=>
 cond ((((decide (0<(min d g)))&&(decide (0≤c)))&&(decide (c<(↑a.length:Int))))&&(decide (b≠c))) (
 (ix (Pj (List.replicate ((↑a.length:Int):Int).toNat (0:Int)) a) b).bind λl=>
 (ix (Pj (List.replicate ((↑a.length:Int):Int).toNat (0:Int)) a) b).bind λi=>
 (ix (Pj (List.replicate ((↑a.length:Int):Int).toNat (0:Int)) a) b).bind λm=>
 (ix (Pj (List.replicate ((↑a.length:Int):Int).toNat (0:Int)) a) b).bind λn=>
 (ix (upd (Pj (List.replicate ((↑a.length:Int):Int).toNat (0:Int)) a) b (BC (i-(min d g)))) c).bind λo=>
 (ix (upd (Pj (List.replicate ((↑a.length:Int):Int).toNat (0:Int)) a) b (BC (i-(min d g)))) c).bind λj=>
 (Fm N j (min d g)).bind λk=>
 (ix (upd (Pj (List.replicate ((↑a.length:Int):Int).toNat (0:Int)) a) b (BC (i-(min d g)))) c).bind λp=>
 (ix (upd (Pj (List.replicate ((↑a.length:Int):Int).toNat (0:Int)) a) b (BC (i-(min d g)))) c).bind λq=>
 Kw N (upd (upd (Pj (List.replicate ((↑a.length:Int):Int).toNat (0:Int)) a) b (BC (i-(min d g)))) c k)) (
 Kw N (Pj (List.replicate ((↑a.length:Int):Int).toNat (0:Int)) a))
def GO (N:Nat) (c:Int) (a:Int→(List (List Int))→Option (List (List Int))) (b:List (List Int)):Option (List (List Int)):=
 a (BC (c+1)) b
def CI (N:Nat) (p0_w:AN):Nat→Int→(List (List Int))→Option (List (List Int))
 |0,_,_=>none
 |o+1,d,c=>
 cond (decide (d<(↑p0_w.in_.Ae.length:Int))) (
 (ix p0_w.in_.Ae d).bind λa=>
 (Gj N a.Aq (↑p0_w.b.A.length:Int)).bind λg=>
 (cond g ((Gj N a.I (↑p0_w.b.F.length:Int)).bind λi=>
 some i) (some false)).bind λj=>
 (cond j ((Gj N a.C (↑p0_w.b.F.length:Int)).bind λk=>
 some k) (some false)).bind λl=>
 cond l (
 (ix c a.Aq).bind λq=>
 (ix c a.Aq).bind λm=>
 (Lu N m a.I a.C a.Bc).bind λn=>
 (ix c a.Aq).bind λs=>
 (ix c a.Aq).bind λp=>
 GO N d (CI N p0_w o) (upd c a.Aq n)) (
 GO N d (CI N p0_w o) c)) (
 some c)
def Db (N:Nat) (p0_w:AN):Option (List (List Int)):=
 CI N p0_w N 0 p0_w.s.D
def IU (N:Nat) (a:Int):Option Int:=
 some a
def G0 (N:Nat) (a:(List Int)) (c:Int→Option Int):Nat→Int→Int→Option Int
 |0,_,_=>none
 |j+1,i,b=>
 cond (decide (b<(↑a.length:Int))) (
 (ix a b).bind λd=>
 (Fm N i d).bind λg=>
 G0 N a c j g (BC (b+1))) (
 c i)
def Ch (N:Nat) (a:(List Int)):Option Int:=
 G0 N a (IU N) N 0 0
def D3 (N:Nat) (p0_w:AN) (b:Int→Option ((List (List Int))×(List Int)×(List AJ))):Nat→Int→Int→Option ((List (List Int))×(List Int)×(List AJ))
 |0,_,_=>none
 |i+1,c,a=>
 cond (decide (a<(↑p0_w.s.E.length:Int))) (
 (ix p0_w.s.E a).bind λd=>
 (Ch N d.K).bind λg=>
 D3 N p0_w b i (BC (c+g)) (BC (a+1))) (
 b c)
def Gx (N:Nat) (p0_w:AN) (k:Int) (l:Int) (d:Int) (i:List AJ) (g:List (List Int)) (c:List Int) (m:Int→Int→(List AJ)→(List (List Int))→(List Int)→Option ((List (List Int))×(List Int)×(List AJ))) (a:Int):Option ((List (List Int))×(List Int)×(List AJ)):=
 cond (decide (a≤0)) (
 m k l i g c) (
 (ix g d).bind λp=>
 (ix g d).bind λj=>
 (ix j 0).bind λn=>
 (ix j 0).bind λq=>
 (ix c 0).bind λt=>
 (ix c 0).bind λo=>
 (ix c 0).bind λu=>
 (ix c 0).bind λv=>
 chk (KX (↑p0_w.b.F.length:Int) (↑p0_w.b.F.length:Int) 8) <|
 (ix (List.replicate ((↑p0_w.b.F.length:Int):Int).toNat (0:Int)) 0).bind λw=>
 (ix (List.replicate ((↑p0_w.b.F.length:Int):Int).toNat (0:Int)) 0).bind λx=>
 chk (Ih (i.length+([(⟨p0_w.s.B,(-1),d,(-4),(upd (List.replicate ((↑p0_w.b.F.length:Int):Int).toNat (0:Int)) 0 a)⟩:AJ)]:List AJ).length) 56) <|
 m (BC (k+a)) (BC (l+a)) (i++([(⟨p0_w.s.B,(-1),d,(-4),(upd (List.replicate ((↑p0_w.b.F.length:Int):Int).toNat (0:Int)) 0 a)⟩:AJ)]:List AJ)) (upd g d (upd j 0 (BC (n+a)))) (upd c 0 (BC (o+a))))
def Fd (N:Nat) (a:Int) (j:Int→Int→Int→(List AJ)→(List (List Int))→(List Int)→Option ((List (List Int))×(List Int)×(List AJ))) (b:Int) (c:Int) (d:List AJ) (g:List (List Int)) (i:List Int):Option ((List (List Int))×(List Int)×(List AJ)):=
 j b c (BC (a+1)) d g i
def Cs (N:Nat) (p0_w:AN):Nat→Int→Int→Int→(List AJ)→(List (List Int))→(List Int)→Option ((List (List Int))×(List Int)×(List AJ))
 |0,_,_,_,_,_,_=>none
 |l+1,c,d,a,g,i,j=>
 cond (decide (a<(↑p0_w.b.A.length:Int))) (
 cond (decide (a<(↑p0_w.in_.Aa.length:Int))) (
 (ix p0_w.in_.Aa a).bind λk=>
 Gx N p0_w c d a g i j (Fd N a (Cs N p0_w l)) (min (min k (BC (1125899906842624-c))) (BC (1152921504606846976-d)))) (
 Gx N p0_w c d a g i j (Fd N a (Cs N p0_w l)) 0)) (
 some (i,j,g))
def D5 (N:Nat) (p0_w:AN) (a:Int):Option ((List (List Int))×(List Int)×(List AJ)):=
 (Ch N p0_w.s.N).bind λb=>
 Cs N p0_w N a b 0 p0_w.moves p0_w.s.D p0_w.s.N
def D6 (N:Nat) (p0_w:AN) (a:Int):Option ((List (List Int))×(List Int)×(List AJ)):=
 D3 N p0_w (D5 N p0_w) N a 0
def D4 (N:Nat) (p0_w:AN) (b:Int→Option ((List (List Int))×(List Int)×(List AJ))):Nat→Int→Int→Option ((List (List Int))×(List Int)×(List AJ))
 |0,_,_=>none
 |i+1,g,a=>
 cond (decide (a<(↑p0_w.s.D.length:Int))) (
 (ix p0_w.s.D a).bind λj=>
 (ix p0_w.s.D a).bind λc=>
 (Ch N c).bind λd=>
 D4 N p0_w b i (BC (g+d)) (BC (a+1))) (
 b g)
def It (N:Nat) (p0_w:AN):Option ((List (List Int))×(List Int)×(List AJ)):=
 D4 N p0_w (D6 N p0_w) N 0 0
def HQ (N:Nat) (a:List Int):Option (List Int):=
 some a
def FB (N:Nat) (c:(List Int)) (d:(List Int)→Option (List Int)):Nat→Int→(List Int)→Option (List Int)
 |0,_,_=>none
 |k+1,a,b=>
 cond (decide (a<(↑c.length:Int))) (
 (ix c a).bind λg=>
 (ix b a).bind λl=>
 (ix b a).bind λi=>
 (Fm N i g).bind λj=>
 (ix b a).bind λm=>
 (ix b a).bind λn=>
 FB N c d k (BC (a+1)) (upd b a j)) (
 d b)
def Ey (N:Nat) (a:(List Int)) (b:(List Int)):Option (List Int):=
 chk (KX (max (↑a.length:Int) (↑b.length:Int)) (max (↑a.length:Int) (↑b.length:Int)) 8) <|
 FB N b (HQ N) N 0 (Pj (List.replicate ((max (↑a.length:Int) (↑b.length:Int)):Int).toNat (0:Int)) a)
def Jo (N:Nat) (a:Int) (b:(List AM)→Int→(List (List Int))→Option ((List (List Int))×(List AM))) (c:List AM) (d:List (List Int)):Option ((List (List Int))×(List AM)):=
 b c (BC (a+1)) d
def Fw (N:Nat) (d:(List AM)) (b:Int) (n:Int) (k:(List AM)→(List (List Int))→Option ((List (List Int))×(List AM))):Nat→(List AM)→Int→(List (List Int))→Option ((List (List Int))×(List AM))
 |0,_,_,_=>none
 |o+1,g,i,c=>
 cond (decide (i<(↑d.length:Int))) (
 (ix d i).bind λa=>
 cond (((decide (a.Z≤b))&&(decide (0≤a.C)))&&(decide (a.C<n))) (
 (ix c a.C).bind λp=>
 (ix c a.C).bind λl=>
 (Ey N l a.K).bind λm=>
 (ix c a.C).bind λq=>
 (ix c a.C).bind λs=>
 Jo N i (Fw N d b n k o) g (upd c a.C m)) (
 (Co N a.K).bind λj=>
 chk (Ih (g.length+([({ a with K:=j}:AM)]:List AM).length) 40) <|
 Jo N i (Fw N d b n k o) (g++([({ a with K:=j}:AM)]:List AM)) c)) (
 k g c)
def IB (N:Nat) (a:List AM) (b:List (List Int)):Option ((List (List Int))×(List AM)):=
 some (b,a)
def Gn (N:Nat) (b:(List AM)) (a:Int) (d:Int) (c:List (List Int)):Option ((List (List Int))×(List AM)):=
 Fw N b a d (IB N) N ([]:List AM) 0 c
def Gm (N:Nat) (g:Int) (d:Int) (c:(List (List Int))→Option ((List (List Int))×(List AM))):Nat→Int→(List (List Int))→Option ((List (List Int))×(List AM))
 |0,_,_=>none
 |i+1,a,b=>
 cond (decide (a<(↑(List.replicate (g:Int).toNat ([]:(List Int))).length:Int))) (
 chk (KX d d 8) <|
 (ix b a).bind λj=>
 (ix b a).bind λk=>
 Gm N g d c i (BC (a+1)) (upd b a (List.replicate (d:Int).toNat (0:Int)))) (
 c b)
def Ls (N:Nat) (d:(List AM)) (c:Int) (a:Int) (b:Int):Option ((List (List Int))×(List AM)):=
 (Hz N a 0 64).bind λg=>
 (Hz N b 0 16).bind λi=>
 chk (KX g g 24) <|
 Gm N g i (Gn N d c g) N 0 (List.replicate (g:Int).toNat ([]:(List Int)))
def Iv (N:Nat) (a:AT) (b:Bool):Option AT:=
 some ({ a with Am:=b}:AT)
def HO (N:Nat) (b:BO) (a:AT) (c:Int):Option AT:=
 cond (decide (b.H≠3)) (
 some a) (
 cond (decide (b.Aw≤c)) (
 Iv N a true) (
 cond (decide (c≤b.Ax)) (
 Iv N a false) (
 Iv N a a.Am)))
def Eo (N:Nat) (a:Int) (c:Int→(List AT)→Option ((List (List Int))×(List AM)×(List AT)×(List Int))) (b:List AT):Option ((List (List Int))×(List AM)×(List AT)×(List Int)):=
 c (BC (a+1)) b
def CD (N:Nat) (p0_w:AN) (j:(List (List Int))×(List AM)) (i:List (List Int)) (d:List Int):Nat→Int→(List AT)→Option ((List (List Int))×(List AM)×(List AT)×(List Int))
 |0,_,_=>none
 |n+1,a,c=>
 cond (decide (a<(↑p0_w.b.G.length:Int))) (
 (ix p0_w.b.G a).bind λg=>
 cond (decide (g.H=3)) (
 (ix c a).bind λo=>
 (ix c a).bind λk=>
 (ix d g.I).bind λp=>
 (ix d g.I).bind λl=>
 (HO N g k l).bind λm=>
 (ix c a).bind λq=>
 (ix c a).bind λs=>
 Eo N a (CD N p0_w j i d n) (upd c a m)) (
 Eo N a (CD N p0_w j i d n) c)) (
 some (i,j.2,c,d))
def Cv (N:Nat) (p0_w:AN) (c:(List (List Int))×(List AM)) (a:List (List Int)) (b:List Int):Option ((List (List Int))×(List AM)×(List AT)×(List Int)):=
 CD N p0_w c a b N 0 p0_w.s.O
def Cf (N:Nat) (p0_w:AN) (i:(List (List Int))×(List AM)) (j:(List (List Int))→(List Int)→Option ((List (List Int))×(List AM)×(List AT)×(List Int))):Nat→Int→(List (List Int))→(List Int)→Option ((List (List Int))×(List AM)×(List AT)×(List Int))
 |0,_,_,_=>none
 |w+1,a,c,d=>
 cond (decide (a<(↑p0_w.b.A.length:Int))) (
 (ix c a).bind λo=>
 (ix c a).bind λk=>
 (ix i.1 a).bind λp=>
 (ix i.1 a).bind λl=>
 (Ey N k l).bind λg=>
 (ix c a).bind λq=>
 (ix c a).bind λs=>
 (ix (upd c a g) a).bind λt=>
 (ix (upd c a g) a).bind λm=>
 (Ch N m).bind λn=>
 (ix d a).bind λu=>
 (ix d a).bind λv=>
 Cf N p0_w i j w (BC (a+1)) (upd c a g) (upd d a n)) (
 j c d)
def Eu (N:Nat) (p0_w:AN):Option ((List (List Int))×(List AM)×(List AT)×(List Int)):=
 (Ls N p0_w.s.E p0_w.s.B (↑p0_w.b.A.length:Int) (↑p0_w.b.F.length:Int)).bind λa=>
 Cf N p0_w a (Cv N p0_w a) N 0 p0_w.s.D p0_w.peaks
def He (N:Nat) (a:List Int):Option (List Int):=
 some a
def Fk (N:Nat) (a:(List Int)) (d:(List Int)→Option (List Int)):Nat→Int→(List Int)→Option (List Int)
 |0,_,_=>none
 |j+1,b,c=>
 cond (decide (b<(↑a.length:Int))) (
 (ix a b).bind λg=>
 (ix c b).bind λk=>
 (ix c b).bind λi=>
 (ix c b).bind λl=>
 (ix c b).bind λm=>
 Fk N a d j (BC (b+1)) (upd c b (BC (i-g)))) (
 d c)
def IC (N:Nat) (a:(List Int)) (b:(List Int)):Option (List Int):=
 chk (KX (↑a.length:Int) (↑a.length:Int) 8) <|
 Fk N b (He N) N 0 (Pj (List.replicate ((↑a.length:Int):Int).toNat (0:Int)) a)
def Ix (N:Nat) (a:(List Int)) (b:List Int):Option ((List Int)×(List Int)):=
 (IC N a b).bind λc=>
 some (b,c)
def Lv (N:Nat) (b:(List Int)) (a:Int) (c:Int):Option ((List Int)×(List Int)):=
 chk (KX (↑b.length:Int) (↑b.length:Int) 8) <|
 (Kc N b a).bind λd=>
 cond (decide (0<(min c d))) (
 (ix (List.replicate ((↑b.length:Int):Int).toNat (0:Int)) a).bind λg=>
 (ix (List.replicate ((↑b.length:Int):Int).toNat (0:Int)) a).bind λi=>
 Ix N b (upd (List.replicate ((↑b.length:Int):Int).toNat (0:Int)) a (min c d))) (
 Ix N b (List.replicate ((↑b.length:Int):Int).toNat (0:Int)))
def DY (N:Nat) (b:Hi) (a:(List Int)):Option ((List Int)×(List Int)):=
 (Lv N a b.Bg b.Bc).bind λc=>
 some (c.1,c.2)
def DE (N:Nat) (a:List AD):Option (List AD):=
 some a
def GN (N:Nat) (a:Int) (b:(List AD)→Int→Option (List AD)) (c:List AD):Option (List AD):=
 b c (BC (a+1))
def CH (N:Nat) (p0_w:AN) (a:Int) (g:(List AD)→Option (List AD)):Nat→(List AD)→Int→Option (List AD)
 |0,_,_=>none
 |j+1,i,d=>
 cond (decide (d<(↑p0_w.in_.Ab.length:Int))) (
 (ix p0_w.in_.Ab d).bind λc=>
 (cond (decide (c.Aq≠a)) (some true) ((Gj N c.Bg (↑p0_w.b.F.length:Int)).bind λk=>
 some (!k))).bind λl=>
 cond (l||(decide (c.Bc≤0))) (
 GN N d (CH N p0_w a g j) i) (
 (cond (decide (c.C≠(-1))) ((Gj N c.C (↑p0_w.b.A.length:Int)).bind λm=>
 (cond (!m) (some true) ((ix p0_w.b.A c.C).bind λn=>
 (ix p0_w.b.A a).bind λo=>
 some (decide (n.Ao≠o.Ao)))).bind λp=>
 some p) (some false)).bind λq=>
 cond q (
 GN N d (CH N p0_w a g j) i) (
 chk (Ih (i.length+1) 32) <|
 GN N d (CH N p0_w a g j) (i++([(⟨c.C,0,(-3),(λx=>DY N c x)⟩:AD)]:List AD))))) (
 g i)
def Ib (N:Nat) (p0_w:AN) (a:Int):Option (List AD):=
 CH N p0_w a (DE N) N ([]:List AD) 0
def Hf (N:Nat) (a:Int) (b:Int):Option (Int×Int):=
 some ((IntKind.wrap .u64 ((IntKind.wrap .u64 ((IntKind.wrap .u64 ((EZ .u64 a 32)*(EZ .u64 b 32)))+(EZ .u64 (IntKind.wrap .u64 ((IntKind.wrap .u64 ((EZ .u64 a 32)*(FX .and .u64 b 4294967295)))+(EZ .u64 (IntKind.wrap .u64 ((FX .and .u64 a 4294967295)*(FX .and .u64 b 4294967295))) 32))) 32)))+(EZ .u64 (IntKind.wrap .u64 ((FX .and .u64 (IntKind.wrap .u64 ((IntKind.wrap .u64 ((EZ .u64 a 32)*(FX .and .u64 b 4294967295)))+(EZ .u64 (IntKind.wrap .u64 ((FX .and .u64 a 4294967295)*(FX .and .u64 b 4294967295))) 32))) 4294967295)+(IntKind.wrap .u64 ((FX .and .u64 a 4294967295)*(EZ .u64 b 32))))) 32))),(IntKind.wrap .u64 (a*b)))
def GV (N:Nat) (a:Int) (b:Int):Option Int:=
 (VM NK (IntKind.wrap .u8 a)).bind λc=>
 some (BC (b+(BC c)))
def GW (N:Nat) (a:Int) (b:Int):Option Int:=
 cond (decide (256≤a)) (
 GV N (EZ .u64 a 8) (BC (b+8))) (
 GV N a b)
def GX (N:Nat) (a:Int) (b:Int):Option Int:=
 cond (decide (65536≤a)) (
 GW N (EZ .u64 a 16) (BC (b+16))) (
 GW N a b)
def Ie (N:Nat) (a:Int):Option Int:=
 cond (decide (4294967296≤a)) (
 GX N (EZ .u64 a 32) 32) (
 GX N a 0)
def Ez (N:Nat) (a:Int):Option Int:=
 (Ie N a).bind λb=>
 some (BC (64-b))
def Dd (N:Nat) (b:Int) (a:Int) (d:Nat) (j:Nat) (g:Int→Option (Int×Int)):Nat→Int→Int→Option (Int×Int)
 |0,_,_=>none
 |k+1,i,c=>
 cond ((decide (4294967296≤c))||(decide ((IntKind.wrap .u64 ((IntKind.wrap .u64 (4294967296*i))+(FX .and .u64 (Do .u64 b j) 4294967295)))<(IntKind.wrap .u64 (c*(FX .and .u64 (Do .u64 a d) 4294967295)))))) (
 cond (decide (4294967296≤(IntKind.wrap .u64 (i+(EZ .u64 (Do .u64 a d) 32))))) (
 g (IntKind.wrap .u64 (c-1))) (
 Dd N b a d j g k (IntKind.wrap .u64 (i+(EZ .u64 (Do .u64 a d) 32))) (IntKind.wrap .u64 (c-1)))) (
 g c)
def E0 (N:Nat) (c:Int) (a:Int) (b:Int) (n:Int) (d:Nat) (k:Nat) (l:Nat) (g:Nat) (i:Int) (j:Int):Option (Int×Int):=
 (QN (IntKind.wrap .u64 n)).bind λm=>
 some ((IntKind.wrap .u64 ((IntKind.wrap .u64 (i*4294967296))+j)),(EZ .u64 (IntKind.wrap .u64 ((IntKind.wrap .u64 ((IntKind.wrap .u64 ((IntKind.wrap .u64 ((IntKind.wrap .u64 ((IntKind.wrap .u64 ((FX .or .u64 (Do .u64 c k) (EZ .u64 a l))*4294967296))+(EZ .u64 (Do .u64 a g) 32)))-(IntKind.wrap .u64 (i*(Do .u64 b d)))))*4294967296))+(FX .and .u64 (Do .u64 a g) 4294967295)))-(IntKind.wrap .u64 (j*(Do .u64 b d))))) m))
def De (N:Nat) (c:Int) (a:Int) (b:Int) (m:Int) (d:Nat) (i:Nat) (j:Nat) (g:Nat) (k:Int):Option (Int×Int):=
 (SK .u64 (IntKind.wrap .u64 ((IntKind.wrap .u64 ((IntKind.wrap .u64 ((FX .or .u64 (Do .u64 c i) (EZ .u64 a j))*4294967296))+(EZ .u64 (Do .u64 a g) 32)))-(IntKind.wrap .u64 (k*(Do .u64 b d))))) (EZ .u64 (Do .u64 b d) 32)).bind λl=>
 Dd N a b d g (E0 N c a b m d i j g k) N (IntKind.wrap .u64 ((IntKind.wrap .u64 ((IntKind.wrap .u64 ((IntKind.wrap .u64 ((FX .or .u64 (Do .u64 c i) (EZ .u64 a j))*4294967296))+(EZ .u64 (Do .u64 a g) 32)))-(IntKind.wrap .u64 (k*(Do .u64 b d)))))-(IntKind.wrap .u64 (l*(EZ .u64 (Do .u64 b d) 32))))) l
def DH (N:Nat) (b:Int) (a:Int) (d:Nat) (j:Nat) (g:Int→Option (Int×Int)):Nat→Int→Int→Option (Int×Int)
 |0,_,_=>none
 |k+1,c,i=>
 cond ((decide (4294967296≤c))||(decide ((IntKind.wrap .u64 ((IntKind.wrap .u64 (4294967296*i))+(EZ .u64 (Do .u64 b j) 32)))<(IntKind.wrap .u64 (c*(FX .and .u64 (Do .u64 a d) 4294967295)))))) (
 cond (decide (4294967296≤(IntKind.wrap .u64 (i+(EZ .u64 (Do .u64 a d) 32))))) (
 g (IntKind.wrap .u64 (c-1))) (
 DH N b a d j g k (IntKind.wrap .u64 (c-1)) (IntKind.wrap .u64 (i+(EZ .u64 (Do .u64 a d) 32))))) (
 g c)
def Fl (N:Nat) (c:Int) (b:Int) (a:Int):Option (Int×Int):=
 cond (decide (a=0)) (
 none) (
 cond (decide (a≤c)) (
 none) (
 cond (decide (c=0)) (
 (SK .u64 b a).bind λm=>
 (Uy b a).bind λn=>
 some (m,n)) (
 (Ez N a).bind λj=>
 (QN (IntKind.wrap .u64 j)).bind λd=>
 (QN (IntKind.wrap .u64 j)).bind λg=>
 (QN (IntKind.wrap .u64 (64-(IntKind.wrap .u64 j)))).bind λi=>
 (QN (IntKind.wrap .u64 j)).bind λk=>
 (SK .u64 (FX .or .u64 (Do .u64 c g) (EZ .u64 b i)) (EZ .u64 (Do .u64 a d) 32)).bind λl=>
 DH N b a d k (De N c b a j d g i k) N l (IntKind.wrap .u64 ((FX .or .u64 (Do .u64 c g) (EZ .u64 b i))-(IntKind.wrap .u64 (l*(EZ .u64 (Do .u64 a d) 32))))))))
def Fx (N:Nat) (c:Int) (b:Int) (a:Int):Option (Int×Int×Bool):=
 cond ((((((decide (c<0))||(decide (1125899906842624<c)))||(decide (b<0)))||(decide (1125899906842624<b)))||(decide (a<1)))||(decide (1125899906842624<a))) (
 some (0,0,false)) (
 (Hf N (IntKind.wrap .u64 c) (IntKind.wrap .u64 b)).bind λg=>
 cond (decide ((IntKind.wrap .u64 a)≤g.1)) (
 some (0,0,false)) (
 (Fl N g.1 g.2 (IntKind.wrap .u64 a)).bind λd=>
 cond (decide (1125899906842624<d.1)) (
 some (0,0,false)) (
 some ((BC d.1),(BC d.2),true))))
def Hx (N:Nat) (c:Int) (a:Int) (b:Int):Option Int:=
 (Fx N c a b).bind λd=>
 cond (!d.2.2) (
 some 0) (
 some d.1)
def Lw (N:Nat) (b:BO) (a:Int) (c:Int):Option Int:=
 cond (decide (b.C=(-1))) (
 some a) (
 (Hx N c b.Ar b.An).bind λd=>
 (GY N a d).bind λg=>
 some (max 0 g))
def HE (N:Nat):Option Bool:=
 some true
def Ea (N:Nat) (a:(List BT)) (d:Option Bool):Nat→Int→Option Bool
 |0,_=>none
 |l+1,c=>
 cond (decide (c<(↑a.length:Int))) (
 (ix a c).bind λb=>
 cond ((((decide (b.R<0))||(decide (1125899906842624<b.R)))||(decide (b.W<0)))||(decide (1125899906842624<b.W))) (
 some false) (
 (cond (decide (0<c)) ((ix a (BC (c-1))).bind λg=>
 (cond (decide (b.R≤g.R)) (some true) ((ix a (BC (c-1))).bind λi=>
 some (decide (b.W<i.W)))).bind λj=>
 some j) (some false)).bind λk=>
 cond k (
 some false) (
 Ea N a d l (BC (c+1))))) (
 d)
def Eb (N:Nat) (a:(List BT)):Option Bool:=
 cond ((decide ((↑a.length:Int)<1))||(decide (32<(↑a.length:Int)))) (
 some false) (
 Ea N a (HE N) N 0)
def Iu (N:Nat) (a:Int):Option Int:=
 some a
def GS (N:Nat) (b:(Int→Option Bool)) (d:Int→Option Int):Nat→Int→Int→Option Int
 |0,_,_=>none
 |i+1,a,c=>
 cond (decide (a<c)) (
 (b (BC (EZ .u64 (IntKind.wrap .u64 (BC (a+c))) 1))).bind λg=>
 cond (!g) (
 GS N b d i (BC ((BC (EZ .u64 (IntKind.wrap .u64 (BC (a+c))) 1))+1)) c) (
 GS N b d i a (BC (EZ .u64 (IntKind.wrap .u64 (BC (a+c))) 1)))) (
 d a)
def Lc (N:Nat) (a:Int) (b:(Int→Option Bool)):Option Int:=
 GS N b (Iu N) N 0 a
def IW (N:Nat) (b:(List BT)) (c2_:Int) (a:Int):Option Bool:=
 (ix b a).bind λc=>
 some (decide (c2_<c.R))
def Il (N:Nat) (a:(List BT)) (d:Int):Option (Int×Bool):=
 (Lc N (↑a.length:Int) (λx=>IW N a d x)).bind λb=>
 cond (decide (b=0)) (
 (ix a 0).bind λi=>
 some (i.W,false)) (
 (ix a (BC (b-1))).bind λc=>
 cond (decide (b=(↑a.length:Int))) (
 some (c.W,false)) (
 (ix a b).bind λj=>
 (ix a b).bind λk=>
 (Fx N (BC (d-c.R)) (BC (j.W-c.W)) (BC (k.R-c.R))).bind λg=>
 some ((BC (c.W+g.1)),(decide (0<g.2.1)))))
def Mn (N:Nat) (a:(List BT)) (b:Int):Option Int:=
 (Eb N a).bind λc=>
 cond (!c) (
 some 0) (
 (Il N a b).bind λd=>
 some d.1)
def Iz (N:Nat):Option Int:=
 some 0
def Iy (N:Nat) (a:BO) (b:Int):Option Int:=
 (GY N b a.Bb).bind λd=>
 (Hx N (max 0 d) a.Y a.T).bind λc=>
 some c
def K0 (N:Nat) (a:Bool) (b:Option Int):Option Int:=
 cond (!a) (
 some 0) (
 b)
def Kz (N:Nat) (c:BO) (a:Bool) (b:Int) (d:Option Int):Option Int:=
 cond a (
 (Hx N b c.Y c.T).bind λg=>
 some g) (
 d)
def Ky (N:Nat) (b:BO) (a:Int):Option Int:=
 (Hx N b.Y a b.U).bind λc=>
 some c
def Kx (N:Nat) (a:BO) (c:Int) (g:(List BT)) (b:Int) (d:Int):Option Int:=
 (Lw N a b d).bind λi=>
 (Mn N g i).bind λj=>
 (Hx N j c a.U).bind λk=>
 (Fm N k a.Ba).bind λl=>
 some l
def Lx (N:Nat) (a:BO) (d:Int) (c:Bool) (i:(List BT)) (b:Int) (g:Int):Option Int:=
 cond (decide (a.H=0)) (
 Kx N a d i b g) (
 cond (decide (a.H=2)) (
 Ky N a d) (
 cond (decide (a.H=3)) (
 Kz N a c b (Iz N)) (
 cond (decide (a.H=5)) (
 K0 N c (Iy N a b)) (
 cond (decide (a.H=1)) (
 Iy N a b) (
 Iz N)))))
def Mm (N:Nat) (b:BO) (c:AT) (a:Int) (d:Int):Option Int:=
 (Lx N b c.V c.Am b.Av a d).bind λg=>
 some g
def HN (N:Nat) (a:Int):Option Int:=
 some a
def Gz (N:Nat):Option Bool:=
 some true
def EV (N:Nat) (a:(List Int)) (c:Option Bool):Nat→Int→Int→Option Bool
 |0,_,_=>none
 |i+1,g,d=>
 cond (decide (d<(↑a.length:Int))) (
 (ix a d).bind λb=>
 cond ((decide (b<0))||(decide ((BC (1125899906842624-g))<b))) (
 some false) (
 EV N a c i (BC (g+b)) (BC (d+1)))) (
 c)
def Id (N:Nat) (a:(List Int)):Option Bool:=
 EV N a (Gz N) N 0 0
def FP (N:Nat) (c:Int) (a:(List Int)) (n:Int) (k:Int→(List Int)→(List Int)→(List Int)→Option ((List Int)×Bool)):Nat→Int→Int→(List Int)→(List Int)→(List Int)→Option ((List Int)×Bool)
 |0,_,_,_,_,_=>none
 |v+1,l,b,g,i,j=>
 cond (decide (b<(↑a.length:Int))) (
 (ix a b).bind λm=>
 (Fx N c m n).bind λd=>
 (ix j b).bind λo=>
 (ix j b).bind λp=>
 (ix i b).bind λq=>
 (ix i b).bind λs=>
 (ix g b).bind λt=>
 (ix g b).bind λu=>
 FP N c a n k v (BC (l-d.1)) (BC (b+1)) (upd g b b) (upd i b d.2.1) (upd j b d.1)) (
 k l g i j)
def FO (N:Nat) (c:List Int) (g:(List Int)→Option ((List Int)×Bool)):Nat→Int→(List Int)→Option ((List Int)×Bool)
 |0,_,_=>none
 |m+1,d,a=>
 cond (decide (d<(↑c.length:Int))) (
 (ix c d).bind λb=>
 (ix a b).bind λj=>
 (ix a b).bind λi=>
 (ix a b).bind λk=>
 (ix a b).bind λl=>
 FO N c g m (BC (d+1)) (upd a b (BC (i+1)))) (
 g a)
def HD (N:Nat) (a:List Int):Option ((List Int)×Bool):=
 some (a,true)
def FT (N:Nat) (c:Int) (d:List Int) (g:List Int) (i:List Int):Option ((List Int)×Bool):=
 (Sx d g).bind λa=>
 (yB a c).bind λb=>
 FO N b (HD N) N 0 i
def FU (N:Nat) (b:Int) (a:(List Int)) (c:Int):Option ((List Int)×Bool):=
 cond ((decide (b<0))||(decide (c<b))) (
 some (([]:List Int),false)) (
 chk (KX (↑a.length:Int) (↑a.length:Int) 8) <|
 cond (decide (c=0)) (
 some ((List.replicate ((↑a.length:Int):Int).toNat (0:Int)),true)) (
 chk (KX (↑a.length:Int) (↑a.length:Int) 8) <|
 chk (KX (↑a.length:Int) (↑a.length:Int) 8) <|
 FP N b a c (FT N) N b 0 (List.replicate ((↑a.length:Int):Int).toNat (0:Int)) (List.replicate ((↑a.length:Int):Int).toNat (0:Int)) (List.replicate ((↑a.length:Int):Int).toNat (0:Int))))
def FQ (N:Nat) (a:(List Int)) (g:Int→Option ((List Int)×Bool)):Nat→Int→Int→Option ((List Int)×Bool)
 |0,_,_=>none
 |i+1,b,c=>
 cond (decide (c<(↑a.length:Int))) (
 (ix a c).bind λd=>
 cond ((decide (d<0))||(decide ((BC (1125899906842624-b))<d))) (
 some (([]:List Int),false)) (
 FQ N a g i (BC (b+d)) (BC (c+1)))) (
 g b)
def KL (N:Nat) (b:Int) (a:(List Int)):Option ((List Int)×Bool):=
 cond (decide (64<(↑a.length:Int))) (
 some (([]:List Int),false)) (
 FQ N a (FU N b a) N 0 0)
def HX (N:Nat) (a:(List Int)) (b:List Int):Option ((List Int)×(List Int)):=
 (IC N a b).bind λc=>
 some (b,c)
def Jp (N:Nat) (a:(List Int)→Option ((List Int)×(List Int))) (b:List Int):Option ((List Int)×(List Int)):=
 a b
def Lt (N:Nat) (a:(List Int)) (b:Int):Option ((List Int)×(List Int)):=
 chk (KX (↑a.length:Int) (↑a.length:Int) 8) <|
 (cond ((decide (0<b))&&(decide ((↑a.length:Int)≤64))) ((Id N a).bind λd=>
 some d) (some false)).bind λg=>
 cond g (
 (Ch N a).bind λi=>
 (KL N (min b i) a).bind λc=>
 cond c.2 (
 Jp N (HX N a) (Pj (List.replicate ((↑a.length:Int):Int).toNat (0:Int)) c.1)) (
 Jp N (HX N a) (List.replicate ((↑a.length:Int):Int).toNat (0:Int)))) (
 HX N a (List.replicate ((↑a.length:Int):Int).toNat (0:Int)))
def AL (N:Nat) (b:Int) (a:(List Int)):Option ((List Int)×(List Int)):=
 (Lt N a b).bind λc=>
 some (c.1,c.2)
def Kj (N:Nat) (c:Int) (a:Int) (b:Int):Option Int:=
 (Fx N c a b).bind λd=>
 cond (!d.2.2) (
 some 0) (
 some d.1)
def LN (N:Nat) (a:BO) (b:Int) (c:Int):Option Int:=
 cond (decide (a.H≠4)) (
 some 0) (
 (Kj N b a.Y a.T).bind λd=>
 (Kj N c a.Ar a.An).bind λg=>
 some (BC (d-g)))
def DG (N:Nat) (a:List AD):Option (List AD):=
 some a
def HV (N:Nat) (p0_w:AN) (c:Int) (m:List AD) (b:Int) (a:BO) (g:(List AD)→Option (List AD)) (i:Int):Option (List AD):=
 (ix p0_w.s.O b).bind λn=>
 (ix p0_w.s.O b).bind λj=>
 (ix p0_w.peaks c).bind λo=>
 (ix p0_w.peaks c).bind λk=>
 (Mm N a j k i).bind λl=>
 (HN N l).bind λd=>
 chk (Ih (m.length+([(⟨a.C,a.S,b,(λx=>AL N d x)⟩:AD)]:List AD).length) 32) <|
 g (m++([(⟨a.C,a.S,b,(λx=>AL N d x)⟩:AD)]:List AD))
def Dc (N:Nat) (a:Int) (b:(List AD)→Int→Option (List AD)) (c:List AD):Option (List AD):=
 b c (BC (a+1))
def Bz (N:Nat) (p0_w:AN) (c:Int) (g:(List AD)→Option (List AD)):Nat→(List AD)→Int→Option (List AD)
 |0,_,_=>none
 |l+1,i,d=>
 cond (decide (d<(↑p0_w.b.G.length:Int))) (
 (ix p0_w.b.G d).bind λa=>
 cond ((decide (a.I=c))&&(decide (a.H≠4))) (
 cond (decide (a.C≠(-1))) (
 (ix p0_w.peaks a.C).bind λA=>
 (ix p0_w.peaks a.C).bind λu=>
 HV N p0_w c i d a (Dc N d (Bz N p0_w c g l)) u) (
 HV N p0_w c i d a (Dc N d (Bz N p0_w c g l)) 0)) (
 cond (decide (a.I=c)) (
 (ix p0_w.peaks c).bind λv=>
 (ix p0_w.peaks c).bind λm=>
 (ix p0_w.peaks a.C).bind λw=>
 (ix p0_w.peaks a.C).bind λn=>
 (LN N a m n).bind λo=>
 (HN N o).bind λj=>
 chk (Ih (i.length+([(⟨a.C,a.S,d,(λx=>AL N j x)⟩:AD)]:List AD).length) 32) <|
 Dc N d (Bz N p0_w c g l) (i++([(⟨a.C,a.S,d,(λx=>AL N j x)⟩:AD)]:List AD))) (
 cond ((decide (a.C=c))&&(decide (a.H=4))) (
 (ix p0_w.peaks a.I).bind λy=>
 (ix p0_w.peaks a.I).bind λp=>
 (ix p0_w.peaks c).bind λz=>
 (ix p0_w.peaks c).bind λq=>
 (LN N a p q).bind λs=>
 (GY N 0 s).bind λt=>
 (HN N t).bind λk=>
 chk (Ih (i.length+([(⟨a.I,a.S,d,(λx=>AL N k x)⟩:AD)]:List AD).length) 32) <|
 Dc N d (Bz N p0_w c g l) (i++([(⟨a.I,a.S,d,(λx=>AL N k x)⟩:AD)]:List AD))) (
 Dc N d (Bz N p0_w c g l) i)))) (
 g i)
def Ic (N:Nat) (p0_w:AN) (a:Int):Option (List AD):=
 Bz N p0_w a (DG N) N ([]:List AD) 0
def B6 (N:Nat) (a:List AD):Option (List AD):=
 some a
def CJ (N:Nat) (a:Int):Option (List AD):=
 cond (decide (a<0)) (
 none) (
 cond (decide (0<(BC (a-(BC (0-0)))))) (
 chk (decide (0<(BC (a-(BC (0-0)))))) <|
 chk (Ih ((BC (a-(BC (0-0)))):Int).toNat 32) <|
 B6 N ([]:List AD)) (
 B6 N ([]:List AD)))
def BW (N:Nat) (a:(List (List AD))) (d:(List AD)→Option (List AD)):Nat→(List AD)→Int→Option (List AD)
 |0,_,_=>none
 |i+1,b,c=>
 cond (decide (c<(↑a.length:Int))) (
 (ix a c).bind λg=>
 chk (Ih (b.length+g.length) 32) <|
 BW N a d i (b++g) (BC (c+1))) (
 d b)
def Cg (N:Nat) (a:List AD):Option (List AD):=
 some a
def B1 (N:Nat) (a:(List (List AD))) (c:Int):Option (List AD):=
 (CJ N c).bind λb=>
 BW N a (Cg N) N b 0
def BX (N:Nat) (a:(List (List AD))) (c:Int→Option (List AD)):Nat→Int→Int→Option (List AD)
 |0,_,_=>none
 |i+1,g,b=>
 cond (decide (b<(↑a.length:Int))) (
 (ix a b).bind λd=>
 cond (decide ((BC (g+(↑d.length:Int)))<0)) (
 none) (
 BX N a c i (BC (g+(↑d.length:Int))) (BC (b+1)))) (
 c g)
def B8 (N:Nat) (a:(List (List AD))):Option (List AD):=
 BX N a (B1 N a) N 0 0
def EE (N:Nat):Option Int:=
 some (-1)
def C1 (N:Nat) (a:(List Int)) (b:(Int→Option Bool)) (c:Option Int):Nat→Int→Option Int
 |0,_=>none
 |j+1,d=>
 cond (decide (d<(↑a.length:Int))) (
 (ix a d).bind λg=>
 (b g).bind λi=>
 cond i (
 some d) (
 C1 N a b c j (BC (d+1)))) (
 c)
def Ev (N:Nat) (a:(List Int)) (b:(Int→Option Bool)):Option Int:=
 C1 N a b (EE N) N 0
def Fj (N:Nat) (a:(List Int)) (b:(Int→Option Bool)):Option Bool:=
 (Ev N a b).bind λc=>
 some (decide (0≤c))
def IA (N:Nat) (a:Int):Option Bool:=
 some (decide (0<a))
def Kv (N:Nat) (c:Int) (b:Int) (a:(List Int)):Option (List AM):=
 (cond (decide (b<0)) (some true) ((Fj N a (λx=>IA N x)).bind λg=>
 some (!g))).bind λi=>
 cond i (
 some ([]:List AM)) (
 (Co N a).bind λd=>
 chk (Ih (([]:List AM).length+1) 40) <|
 some (([]:List AM)++([(⟨c,b,d⟩:AM)]:List AM)))
def HB (N:Nat) (p0_w:AN) (a:Int) (b:AD):Option ((List (List Int))×(List Int)×(List AJ)×(List AM)):=
 (ix p0_w.s.D a).bind λm=>
 (ix p0_w.s.D a).bind λj=>
 (b.take j).bind λc=>
 (ix p0_w.s.D a).bind λk=>
 (ix p0_w.s.D a).bind λl=>
 (Ch N c.1).bind λg=>
 cond (decide (g≤0)) (
 some ((upd p0_w.s.D a c.2),p0_w.s.L,p0_w.moves,p0_w.sent)) (
 chk (Ih (p0_w.moves.length+([(⟨p0_w.s.B,a,b.to_,b.way,c.1⟩:AJ)]:List AJ).length) 56) <|
 cond (decide (b.to_=(-1))) (
 (Ey N p0_w.s.L c.1).bind λi=>
 some ((upd p0_w.s.D a c.2),i,(p0_w.moves++([(⟨p0_w.s.B,a,b.to_,b.way,c.1⟩:AJ)]:List AJ)),p0_w.sent)) (
 (Kv N (BC ((BC (p0_w.s.B+1))+b.delay)) b.to_ c.1).bind λd=>
 chk (Ih (p0_w.sent.length+d.length) 40) <|
 some ((upd p0_w.s.D a c.2),p0_w.s.L,(p0_w.moves++([(⟨p0_w.s.B,a,b.to_,b.way,c.1⟩:AJ)]:List AJ)),(p0_w.sent++d))))
def HC (N:Nat) (a:EW) (b:Int×Int×Bool) (c:Int):Option (Int×Int):=
 cond (decide ((BC (b.2.1+c))<a.T)) (
 some (b.1,(BC (b.2.1+c)))) (
 some ((BC (b.1+1)),(BC ((BC (b.2.1+c))-a.T))))
def Ik (N:Nat) (a:EW) (d:Int) (b:Int):Option (Int×Int):=
 (Fx N d a.Y a.T).bind λc=>
 cond (!c.2.2) (
 some (0,0)) (
 cond ((decide (0≤b))&&(decide (b<a.T))) (
 HC N a c b) (
 HC N a c 0))
def EC (N:Nat) (p0_w:AN) (d:Int) (o:EW) (g:List (List Int)) (i:List Int) (j:List AJ) (k:List AM) (l:Int×Int) (n:(List (List Int))→(List Int)→(List AJ)→(List AM)→(List Int)→Option ((List (List Int))×(List Int)×(List Int)×(List AJ)×(List AM))) (c:List Int):Option ((List (List Int))×(List Int)×(List Int)×(List AJ)×(List AM)):=
 (HN N l.1).bind λm=>
 (HB N (⟨p0_w.b,p0_w.in_,(⟨p0_w.s.B,g,c,p0_w.s.E,p0_w.s.O,p0_w.s.N,i⟩:AE),j,p0_w.peaks,k⟩:AN) d (⟨o.Ap,o.S,(-1),(λx=>AL N m x)⟩:AD)).bind λa=>
 n a.1 a.2.1 a.2.2.1 a.2.2.2 c
def Cu (N:Nat) (p0_w:AN) (d:Int) (o:EW) (a:List (List Int)) (i:List Int) (j:List AJ) (k:List AM) (g:List Int):Option ((List (List Int))×(List Int)×(List Int)×(List AJ)×(List AM)):=
 (ix a d).bind λp=>
 (ix a d).bind λm=>
 (Ch N m).bind λl=>
 cond (decide (0<(BC (l-o.Au)))) (
 (HN N (BC (l-o.Au))).bind λn=>
 (HB N (⟨p0_w.b,p0_w.in_,(⟨p0_w.s.B,a,g,p0_w.s.E,p0_w.s.O,p0_w.s.N,i⟩:AE),j,p0_w.peaks,k⟩:AN) d (⟨o.Ap,o.S,(-2),(λx=>AL N n x)⟩:AD)).bind λc=>
 some (c.1,g,c.2.1,c.2.2.1,c.2.2.2)) (
 some (a,g,i,j,k))
def Et (N:Nat) (p0_w:AN) (a:Int) (j:EW) (b:List (List Int)) (d:List Int) (g:List AJ) (i:List AM):Option ((List (List Int))×(List Int)×(List Int)×(List AJ)×(List AM)):=
 cond (decide (j.T≠0)) (
 (ix p0_w.peaks a).bind λo=>
 (ix p0_w.peaks a).bind λk=>
 (ix p0_w.s.M a).bind λp=>
 (ix p0_w.s.M a).bind λl=>
 (Ik N j k l).bind λc=>
 (ix p0_w.s.M a).bind λq=>
 (ix p0_w.s.M a).bind λt=>
 (ix b a).bind λu=>
 (ix b a).bind λm=>
 (Ch N m).bind λn=>
 cond (decide (c.1≤n)) (
 (ix (upd p0_w.s.M a 0) a).bind λv=>
 (ix (upd p0_w.s.M a 0) a).bind λw=>
 EC N p0_w a j b d g i c (Cu N p0_w a j) (upd (upd p0_w.s.M a 0) a c.2)) (
 EC N p0_w a j b d g i c (Cu N p0_w a j) (upd p0_w.s.M a 0))) (
 Cu N p0_w a j b d g i p0_w.s.M)
def C0 (N:Nat) (p0_w:AN) (g:Int) (d:(List AD)) (m:(List (List Int))→(List Int)→(List AJ)→(List AM)→Option ((List (List Int))×(List Int)×(List Int)×(List AJ)×(List AM))):Nat→Int→(List (List Int))→(List Int)→(List AJ)→(List AM)→Option ((List (List Int))×(List Int)×(List Int)×(List AJ)×(List AM))
 |0,_,_,_,_,_=>none
 |p+1,a,i,j,k,l=>
 cond (decide (a<(↑d.length:Int))) (
 (ix d a).bind λo=>
 (ix d a).bind λn=>
 (HB N (⟨p0_w.b,p0_w.in_,(⟨p0_w.s.B,i,p0_w.s.M,p0_w.s.E,p0_w.s.O,p0_w.s.N,j⟩:AE),k,p0_w.peaks,l⟩:AN) g n).bind λc=>
 C0 N p0_w g d m p (BC (a+1)) c.1 c.2.1 c.2.2.1 c.2.2.2) (
 m i j k l)
def Gl (N:Nat) (p0_w:AN) (a:Int):Option ((List (List Int))×(List Int)×(List Int)×(List AJ)×(List AM)):=
 (ix p0_w.b.A a).bind λi=>
 (Ib N p0_w a).bind λc=>
 (Ic N p0_w a).bind λd=>
 (B8 N ([c,d]:List (List AD))).bind λg=>
 C0 N p0_w a g (Et N p0_w a i) N 0 p0_w.s.D p0_w.s.L p0_w.moves p0_w.sent
def EU (N:Nat) (k:AE) (c:(List (List Int))×(List Int)×(List AJ)) (a:(List (List Int))×(List AM)×(List AT)×(List Int)) (d:List (List Int)) (g:List Int) (i:List Int) (j:List AJ) (b:List AM):Option (AE×(List AJ)×(List Int)):=
 chk (Ih (a.2.1.length+b.length) 40) <|
 some ((⟨(BC (k.B+1)),d,g,(a.2.1++b),a.2.2.1,c.2.1,i⟩:AE),j,a.2.2.2)
def ET (N:Nat) (c:AF) (d:Ck) (o:AE) (i:(List (List Int))×(List Int)×(List AJ)) (b:(List (List Int))×(List AM)×(List AT)×(List Int)) (p:(List (List Int))→(List Int)→(List Int)→(List AJ)→(List AM)→Option (AE×(List AJ)×(List Int))):Nat→Int→(List (List Int))→(List Int)→(List Int)→(List AJ)→(List AM)→Option (AE×(List AJ)×(List Int))
 |0,_,_,_,_,_,_=>none
 |q+1,g,j,k,l,m,n=>
 cond (decide (g<(↑c.A.length:Int))) (
 (Gl N (⟨c,d,(⟨o.B,j,k,b.2.1,b.2.2.1,i.2.1,l⟩:AE),m,b.2.2.2,n⟩:AN) g).bind λa=>
 ET N c d o i b p q (BC (g+1)) a.1 a.2.1 a.2.2.1 a.2.2.2.1 a.2.2.2.2) (
 p j k l m n)
def GR (N:Nat) (a:AF) (j:AE) (c:Ck):Option (AE×(List AJ)×(List Int)):=
 (KF N j).bind λb=>
 chk (KX (↑a.A.length:Int) (↑a.A.length:Int) 8) <|
 (Gk N (⟨a,c,b,([]:List AJ),(List.replicate ((↑a.A.length:Int):Int).toNat (0:Int)),([]:List AM)⟩:AN)).bind λg=>
 (Db N (⟨a,c,({ b with O:=g}:AE),([]:List AJ),(List.replicate ((↑a.A.length:Int):Int).toNat (0:Int)),([]:List AM)⟩:AN)).bind λk=>
 (It N (⟨a,c,(⟨b.B,k,b.M,b.E,g,b.N,b.L⟩:AE),([]:List AJ),(List.replicate ((↑a.A.length:Int):Int).toNat (0:Int)),([]:List AM)⟩:AN)).bind λd=>
 (Eu N (⟨a,c,(⟨b.B,d.1,b.M,b.E,g,d.2.1,b.L⟩:AE),d.2.2,(List.replicate ((↑a.A.length:Int):Int).toNat (0:Int)),([]:List AM)⟩:AN)).bind λi=>
 ET N a c b d i (EU N b d i) N 0 i.1 b.M b.L d.2.2 ([]:List AM)
def JM (N:Nat) (a:List AE) (b:List AJ) (c:List (List Int)):Option ((List AE)×(List AJ)×(List (List Int))):=
 some (a,b,c)
def Gy (N:Nat) (c:AF) (b:(List Ck)) (k:(List AE)→(List AJ)→(List (List Int))→Option ((List AE)×(List AJ)×(List (List Int)))):Nat→(List AE)→(List AJ)→(List (List Int))→Int→Int→(List (List Int))→(List Int)→(List AM)→(List AT)→(List Int)→(List Int)→Option ((List AE)×(List AJ)×(List (List Int)))
 |0,_,_,_,_,_,_,_,_,_,_,_=>none
 |u+1,d,g,i,j,m,n,o,p,q,s,t=>
 cond (decide (j<(↑b.length:Int))) (
 (ix b j).bind λl=>
 (GR N c (⟨m,n,o,p,q,s,t⟩:AE) l).bind λa=>
 chk (Ih (d.length+1) 152) <|
 chk (Ih (g.length+a.2.1.length) 56) <|
 chk (Ih (i.length+1) 24) <|
 Gy N c b k u (d++([a.1]:List AE)) (g++a.2.1) (i++([a.2.2]:List (List Int))) (BC (j+1)) a.1.B a.1.D a.1.M a.1.E a.1.O a.1.N a.1.L) (
 k d g i)
def Jz (N:Nat) (c:AF) (a:AE) (b:(List Ck)):Option ((List AE)×(List AJ)×(List (List Int))):=
 Gy N c b (JM N) N ([]:List AE) ([]:List AJ) ([]:List (List Int)) 0 a.B a.D a.M a.E a.O a.N a.L
def KK (N:Nat) (a:List Int):Option (List Int):=
 some a
def Lg (N:Nat) (a:Int) (b:Int→(List Int)→Option (List Int)) (c:List Int):Option (List Int):=
 b (BC (a+1)) c
def Ij (N:Nat) (b:(List AJ)) (c:Int) (a:Int) (d:Int) (k:(List Int)→Option (List Int)):Nat→Int→(List Int)→Option (List Int)
 |0,_,_=>none
 |o+1,j,i=>
 cond (decide (j<(↑b.length:Int))) (
 (ix b j).bind λg=>
 cond (((decide (g.I=c))&&(decide (a≤g.B)))&&(decide (g.B<d))) (
 (ix i (BC (g.B-a))).bind λp=>
 (ix i (BC (g.B-a))).bind λl=>
 (Ch N g.K).bind λm=>
 (Fm N l m).bind λn=>
 (ix i (BC (g.B-a))).bind λq=>
 (ix i (BC (g.B-a))).bind λs=>
 Lg N j (Ij N b c a d k o) (upd i (BC (g.B-a)) n)) (
 Lg N j (Ij N b c a d k o) i)) (
 k i)
def QK (N:Nat) (c:(List AJ)) (d:Int) (b:Int) (a:Int):Option (List Int):=
 (GY N a b).bind λg=>
 cond ((decide (a≤b))||(decide (65536<g))) (
 some ([]:List Int)) (
 chk (KX g g 8) <|
 Ij N c d b a (KK N) N 0 (List.replicate (g:Int).toNat (0:Int)))
def Ia (N:Nat) (a:ByteArray) (i:Int) (j:Int) (c:Int→Option (Int×Int)):Nat→Int→Int→Option (Int×Int)
 |0,_,_=>none
 |k+1,d,b=>
 cond (decide (b≤i)) (
 (VM a b).bind λg=>
 Ia N a i j c k (FX .or .u64 (Do .u64 d 8) (IntKind.wrap .u64 (FX .xor .u8 g j))) (BC (b+1))) (
 c d)
def JZ (N:Nat) (b:Int) (c:Int) (a:Int):Option (Int×Int):=
 cond (decide (9223372036854775807<a)) (
 some (0,0)) (
 cond (decide (c≠0)) (
 some ((BC ((BC (0-(BC a)))-1)),(BC (1+b)))) (
 some ((BC a),(BC (1+b)))))
def Ja (N:Nat) (a:ByteArray) (b:Int) (c:Int):Option (Int×Int):=
 cond ((decide (8<b))||(decide ((↑a.size:Int)<(BC (1+b))))) (
 some (0,0)) (
 (cond (decide (0<b)) ((VM a 1).bind λd=>
 some (decide (d=c))) (some false)).bind λg=>
 cond g (
 some (0,0)) (
 Ia N a b c (JZ N b c) N 0 1))
def Ml (N:Nat) (a:ByteArray):Option (Int×Int):=
 cond (a==ByteArray.empty) (
 some (0,0)) (
 (VM a 0).bind λb=>
 cond (decide ((BC ((BC b)-128))<0)) (
 (VM a 0).bind λc=>
 Ja N a (BC (127-(BC c))) 255) (
 Ja N a (BC ((BC b)-128)) 0))
def EA (N:Nat) (p0_r:AW):Option (Int×ByteArray×Bool):=
 cond p0_r.bad (
 some (0,p0_r.rest_,p0_r.bad)) (
 (Ml N p0_r.rest_).bind λa=>
 cond (decide (a.2=0)) (
 some (0,p0_r.rest_,true)) (
 (subD p0_r.rest_ a.2).bind λb=>
 some (a.1,b,p0_r.bad)))
def Ka (N:Nat) (p0_r:AW):Option Int:=
 cond p0_r.bad (
 some 0) (
 some (↑p0_r.rest_.size:Int))
def Lr (N:Nat) (p0_r:AW):Option (Int×Bool×ByteArray×Bool):=
 (EA N p0_r).bind λa=>
 (cond (decide (0≤a.1)) ((Ka N (⟨a.2.1,a.2.2⟩:AW)).bind λb=>
 some (decide (a.1≤b))) (some false)).bind λc=>
 some (a.1,c,a.2.1,a.2.2)
def HL (N:Nat) (a:ByteArray) (b:Bool):Option ((List Int)×ByteArray×Bool):=
 some (([]:List Int),a,true)
def Fu (N:Nat) (c:ByteArray→Bool→Option ((List Int)×ByteArray×Bool)):Nat→(List Int)→ByteArray→Bool→Option ((List Int)×ByteArray×Bool)
 |0,_,_,_=>none
 |k+1,d,b,a=>
 cond ((!a)&&(!(b==ByteArray.empty))) (
 (VM b 0).bind λj=>
 (subD b 1).bind λg=>
 cond (decide (j=0)) (
 some (d,g,a)) (
 cond (decide (j≠1)) (
 c g a) (
 (EA N (⟨g,a⟩:AW)).bind λi=>
 chk (Ih (d.length+1) 8) <|
 Fu N c k (d++([i.1]:List Int)) i.2.1 i.2.2))) (
 c b a)
def JW (N:Nat) (p0_r:AW):Option ((List Int)×ByteArray×Bool):=
 Fu N (HL N) N ([]:List Int) p0_r.rest_ p0_r.bad
def GJ (N:Nat) (p0_r:AW):Option ((List Int)×ByteArray×Bool):=
 (JW N p0_r).bind λa=>
 some (a.1,a.2.1,a.2.2)
def Kb (N:Nat) (p0_r:AW):Option Bool:=
 some ((!p0_r.bad)&&(p0_r.rest_==ByteArray.empty))
def KH (N:Nat) (g:Int×Bool×ByteArray×Bool) (l:ByteArray→Bool→(List AM)→Option (AE×Bool×ByteArray×Bool)):Nat→Int→ByteArray→Bool→(List AM)→Option (AE×Bool×ByteArray×Bool)
 |0,_,_,_,_=>none
 |m+1,i,j,k,a=>
 cond (decide (i<g.1)) (
 (EA N (⟨j,k⟩:AW)).bind λb=>
 (EA N (⟨b.2.1,b.2.2⟩:AW)).bind λc=>
 (GJ N (⟨c.2.1,c.2.2⟩:AW)).bind λd=>
 chk (Ih (a.length+1) 40) <|
 KH N g l m (BC (i+1)) d.2.1 d.2.2 (a++([(⟨b.1,c.1,d.1⟩:AM)]:List AM))) (
 l j k a)
def KG (N:Nat) (g:Int×Bool×ByteArray×Bool) (l:ByteArray→Bool→(List AT)→Option (AE×Bool×ByteArray×Bool)):Nat→Int→ByteArray→Bool→(List AT)→Option (AE×Bool×ByteArray×Bool)
 |0,_,_,_,_=>none
 |m+1,i,j,k,b=>
 cond (decide (i<g.1)) (
 (EA N (⟨j,k⟩:AW)).bind λc=>
 (EA N (⟨c.2.1,c.2.2⟩:AW)).bind λd=>
 (EA N (⟨d.2.1,d.2.2⟩:AW)).bind λa=>
 chk (Ih (b.length+1) 24) <|
 KG N g l m (BC (i+1)) a.2.1 a.2.2 (b++([(⟨c.1,d.1,(decide ((FX .and .i64 a.1 1)≠0)),(decide ((FX .and .i64 a.1 2)≠0))⟩:AT)]:List AT))) (
 l j k b)
def Ld (N:Nat) (l:Int×ByteArray×Bool) (m:List (List Int)) (c:(List Int)×ByteArray×Bool) (d:List AM) (g:ByteArray) (i:Bool) (j:List AT):Option (AE×Bool×ByteArray×Bool):=
 (GJ N (⟨g,i⟩:AW)).bind λb=>
 (GJ N (⟨b.2.1,b.2.2⟩:AW)).bind λa=>
 (Kb N (⟨a.2.1,a.2.2⟩:AW)).bind λk=>
 some ((⟨l.1,m,c.1,d,j,b.1,a.1⟩:AE),k,a.2.1,a.2.2)
def Le (N:Nat) (d:Int×ByteArray×Bool) (g:List (List Int)) (b:(List Int)×ByteArray×Bool) (i:ByteArray) (j:Bool) (c:List AM):Option (AE×Bool×ByteArray×Bool):=
 (Lr N (⟨i,j⟩:AW)).bind λa=>
 cond (!a.2.1) (
 some ((⟨d.1,g,b.1,c,[],[],[]⟩:AE),false,a.2.2.1,a.2.2.2)) (
 KG N a (Ld N d g b c) N 0 a.2.2.1 a.2.2.2 ([]:List AT))
def Lf (N:Nat) (c:Int×ByteArray×Bool) (g:ByteArray) (i:Bool) (d:List (List Int)):Option (AE×Bool×ByteArray×Bool):=
 (GJ N (⟨g,i⟩:AW)).bind λb=>
 (Lr N (⟨b.2.1,b.2.2⟩:AW)).bind λa=>
 cond (!a.2.1) (
 some ((⟨c.1,d,b.1,[],[],[],[]⟩:AE),false,a.2.2.1,a.2.2.2)) (
 KH N a (Le N c d b) N 0 a.2.2.1 a.2.2.2 ([]:List AM))
def KI (N:Nat) (c:Int×Bool×ByteArray×Bool) (d:ByteArray→Bool→(List (List Int))→Option (AE×Bool×ByteArray×Bool)):Nat→Int→ByteArray→Bool→(List (List Int))→Option (AE×Bool×ByteArray×Bool)
 |0,_,_,_,_=>none
 |k+1,g,i,j,a=>
 cond (decide (g<c.1)) (
 (GJ N (⟨i,j⟩:AW)).bind λb=>
 chk (Ih (a.length+1) 24) <|
 KI N c d k (BC (g+1)) b.2.1 b.2.2 (a++([b.1]:List (List Int)))) (
 d i j a)
def QI (N:Nat) (p0_r:AW):Option (AE×Bool×ByteArray×Bool):=
 (EA N p0_r).bind λb=>
 (Lr N (⟨b.2.1,b.2.2⟩:AW)).bind λa=>
 cond (!a.2.1) (
 some ((⟨b.1,[],[],[],[],[],[]⟩:AE),false,a.2.2.1,a.2.2.2)) (
 KI N a (Lf N b) N 0 a.2.2.1 a.2.2.2 ([]:List (List Int)))
def J1 (N:Nat) (b:(List Int)) (a:Int):Option Bool:=
 (cond (((decide (0≤a))&&(decide (a≤16)))&&(decide ((↑b.length:Int)=a))) ((Id N b).bind λc=>
 some c) (some false)).bind λd=>
 some d
def GM (N:Nat) (b:AF) (a:AE) (j:Int→Option (Int×Bool)):Nat→Int→Int→Option (Int×Bool)
 |0,_,_=>none
 |o+1,g,i=>
 cond (decide (i<(↑a.E.length:Int))) (
 (ix a.E i).bind λd=>
 (cond (decide (d.Z<a.B)) (some true) ((Gj N d.C (↑b.A.length:Int)).bind λk=>
 some (!k))).bind λl=>
 (cond l (some true) ((J1 N d.K (↑b.F.length:Int)).bind λm=>
 some (!m))).bind λn=>
 cond n (
 some (0,false)) (
 (Ch N d.K).bind λc=>
 cond ((decide (c≤0))||(decide (1125899906842624<(BC (g+c))))) (
 some (0,false)) (
 GM N b a j o (BC (g+c)) (BC (i+1))))) (
 j g)
def H3 (N:Nat) (a:Int):Option (Int×Bool):=
 some (a,true)
def FH (N:Nat) (a:AF) (b:AE) (c:Int):Option (Int×Bool):=
 GM N a b (H3 N) N c 0
def FG (N:Nat) (b:AF) (a:AE) (g:Int→Option (Int×Bool)):Nat→Int→Int→Option (Int×Bool)
 |0,_,_=>none
 |l+1,c,d=>
 cond (decide (d<(↑a.D.length:Int))) (
 (ix a.D d).bind λi=>
 (J1 N i (↑b.F.length:Int)).bind λk=>
 cond (!k) (
 some (0,false)) (
 (Ch N i).bind λj=>
 cond (decide (1125899906842624<(BC (c+j)))) (
 some (0,false)) (
 FG N b a g l (BC (c+j)) (BC (d+1))))) (
 g c)
def KE (N:Nat) (a:AF) (b:AE):Option (Int×Bool):=
 FG N a b (FH N a b) N 0 0
def Hc (N:Nat) (a:Int):Option (Int×Bool):=
 some (a,true)
def Fi (N:Nat) (b:(List Int)) (a:Int) (g:Int→Option (Int×Bool)):Nat→Int→Int→Option (Int×Bool)
 |0,_,_=>none
 |j+1,i,c=>
 cond (decide (c<(↑b.length:Int))) (
 (ix b c).bind λd=>
 cond ((decide (d<0))||(decide ((BC (a-i))<d))) (
 some (0,false)) (
 Fi N b a g j (BC (i+d)) (BC (c+1)))) (
 g i)
def Is (N:Nat) (b:(List Int)) (a:Int):Option (Int×Bool):=
 Fi N b a (Hc N) N 0 0
def GA (N:Nat) (d:AF) (g:AE) (i:Option Bool):Nat→Int→Option Bool
 |0,_=>none
 |j+1,b=>
 cond (decide (b<(↑d.G.length:Int))) (
 (ix d.G b).bind λc=>
 (ix g.O b).bind λa=>
 cond ((((decide (a.V<0))||(decide (c.U<a.V)))||(decide (a.X<0)))||(decide (c.U<a.X))) (
 some false) (
 cond ((a.Am&&(decide (c.H≠5)))&&(decide (c.H≠3))) (
 some false) (
 GA N d g i j (BC (b+1))))) (
 i)
def GC (N:Nat) (d:AF) (a:AE):Option Bool:=
 (KE N d a).bind λb=>
 cond (!b.2) (
 some false) (
 (Is N a.N 1152921504606846976).bind λc=>
 cond (!c.2) (
 some false) (
 (Is N a.L (BC ((BC (c.1+1125899906842624))-b.1))).bind λg=>
 some g.2))
def GD (N:Nat) (a:AF) (b:AE):Option Bool:=
 GA N a b (GC N a b) N 0
def GB (N:Nat) (a:AF) (b:AE) (d:Option Bool):Nat→Int→Option Bool
 |0,_=>none
 |l+1,c=>
 cond (decide (c<(↑a.A.length:Int))) (
 (ix a.A c).bind λk=>
 (ix b.M c).bind λg=>
 (cond (decide (g<0)) (some true) ((ix b.M c).bind λi=>
 some (decide ((max 0 (BC (k.T-1)))<i)))).bind λj=>
 cond j (
 some false) (
 GB N a b d l (BC (c+1)))) (
 d)
def Jy (N:Nat) (b:AF) (a:AE):Option Bool:=
 cond (((((((decide (a.B<0))||(decide (16777216<a.B)))||(decide ((↑a.D.length:Int)≠(↑b.A.length:Int))))||(decide ((↑a.M.length:Int)≠(↑b.A.length:Int))))||(decide ((↑a.O.length:Int)≠(↑b.G.length:Int))))||(decide ((↑a.N.length:Int)≠(↑b.F.length:Int))))||(decide ((↑a.L.length:Int)≠(↑b.F.length:Int)))) (
 some false) (
 GB N b a (GD N b a) N 0)
def ED (N:Nat):Nat→Int→Int→(List Int)→Option (List Int)
 |0,_,_,_=>none
 |i+1,b,c,a=>
 cond (decide (b<c)) (
 (ix a c).bind λj=>
 (ix a c).bind λd=>
 (ix a b).bind λk=>
 (ix a b).bind λg=>
 (ix a b).bind λl=>
 (ix a b).bind λm=>
 (ix (upd a b d) c).bind λn=>
 (ix (upd a b d) c).bind λo=>
 ED N i (BC (b+1)) (BC (c-1)) (upd (upd a b d) c g)) (
 some a)
def H7 (N:Nat) (a:(List Int)):Option (List Int):=
 ED N N 0 (BC ((↑a.length:Int)-1)) a
def Jx (N:Nat) (a:Int) (b:Int) (c:List Int):Option (List Int):=
 chk (Ih (c.length+1) 1) <|
 (H7 N (c++([(IntKind.wrap .u8 (BC (a+(BC (b*(↑c.length:Int))))))]:List Int))).bind λd=>
 some d
def Ir (N:Nat) (a:Int) (d:(List Int)→Option (List Int)):Nat→Int→(List Int)→Option (List Int)
 |0,_,_=>none
 |g+1,b,c=>
 cond (decide (0<b)) (
 chk (Ih (c.length+1) 1) <|
 Ir N a d g (EZ .u64 b 8) (c++([(FX .xor .u8 (IntKind.wrap .u8 b) a)]:List Int))) (
 d c)
def Lb (N:Nat) (d:Int) (a:Int) (b:Int) (c:Int):Option (List Int):=
 chk (KX 0 9 1) <|
 Ir N c (Jx N a b) N d (List.replicate (0:Int).toNat (0:Int))
def Hj (N:Nat) (a:Int):Option ByteArray:=
 cond (decide (0≤a)) (
 (Lb N (IntKind.wrap .u64 a) 128 1 0).bind λg=>
 (uI g).bind λb=>
 some b) (
 (Lb N (IntKind.wrap .u64 (BC (0-(BC (a+1))))) 127 (-1) 255).bind λc=>
 (uI c).bind λd=>
 some d)
def HM (N:Nat) (c:ByteArray):Option ByteArray:=
 (tE N c 0).bind λa=>
 (tD N a).bind λb=>
 some b
def Fv (N:Nat) (a:(List Int)) (c:ByteArray→Option ByteArray):Nat→Int→ByteArray→Option ByteArray
 |0,_,_=>none
 |l+1,b,d=>
 cond (decide (b<(↑a.length:Int))) (
 (ix a b).bind λg=>
 (tE N d 1).bind λi=>
 (Hj N g).bind λj=>
 (Pv N i j).bind λk=>
 Fv N a c l (BC (b+1)) k) (
 c d)
def JX (N:Nat) (a:(List Int)):Option ByteArray:=
 Fv N a (HM N) N 0 ByteArray.empty
def Ji (N:Nat) (a:(List Int)):Option ByteArray:=
 (JX N a).bind λb=>
 some b
def Jm (N:Nat) (a:AE) (g:ByteArray→Option ByteArray):Nat→Int→ByteArray→Option ByteArray
 |0,_,_=>none
 |o+1,b,d=>
 cond (decide (b<(↑a.E.length:Int))) (
 (ix a.E b).bind λc=>
 (Hj N c.Z).bind λi=>
 (Pv N d i).bind λj=>
 (Hj N c.C).bind λk=>
 (Pv N j k).bind λl=>
 (Ji N c.K).bind λm=>
 (Pv N l m).bind λn=>
 Jm N a g o (BC (b+1)) n) (
 g d)
def Kr (N:Nat) (b:Int) (c:ByteArray) (a:AT) (n:Int→ByteArray→Option ByteArray) (d:Int):Option ByteArray:=
 (Hj N a.V).bind λg=>
 (Pv N c g).bind λi=>
 (Hj N a.X).bind λj=>
 (Pv N i j).bind λk=>
 (Hj N d).bind λl=>
 (Pv N k l).bind λm=>
 n (BC (b+1)) m
def Ks (N:Nat) (b:Int) (c:ByteArray) (a:AT) (g:Int→ByteArray→Option ByteArray) (d:Int):Option ByteArray:=
 cond a.Am (
 Kr N b c a g (BC (d+2))) (
 Kr N b c a g d)
def HW (N:Nat) (a:AE) (g:ByteArray→Option ByteArray):Nat→Int→ByteArray→Option ByteArray
 |0,_,_=>none
 |i+1,b,c=>
 cond (decide (b<(↑a.O.length:Int))) (
 (ix a.O b).bind λd=>
 cond d.At (
 Ks N b c d (HW N a g i) (BC (0+1))) (
 Ks N b c d (HW N a g i) 0)) (
 g c)
def Iw (N:Nat) (a:AE) (b:ByteArray):Option ByteArray:=
 (Ji N a.N).bind λc=>
 (Pv N b c).bind λd=>
 (Ji N a.L).bind λg=>
 (Pv N d g).bind λi=>
 (tD N i).bind λj=>
 some j
def Kt (N:Nat) (a:AE) (b:ByteArray):Option ByteArray:=
 (Hj N (↑a.O.length:Int)).bind λc=>
 (Pv N b c).bind λd=>
 HW N a (Iw N a) N 0 d
def Ku (N:Nat) (a:AE) (i:ByteArray):Option ByteArray:=
 (Ji N a.M).bind λb=>
 (Pv N i b).bind λc=>
 (Hj N (↑a.E.length:Int)).bind λd=>
 (Pv N c d).bind λg=>
 Jm N a (Kt N a) N 0 g
def Jn (N:Nat) (a:AE) (c:ByteArray→Option ByteArray):Nat→Int→ByteArray→Option ByteArray
 |0,_,_=>none
 |k+1,b,d=>
 cond (decide (b<(↑a.D.length:Int))) (
 (ix a.D b).bind λg=>
 (Ji N g).bind λi=>
 (Pv N d i).bind λj=>
 Jn N a c k (BC (b+1)) j) (
 c d)
def NF (N:Nat) (a:AE):Option ByteArray:=
 (Hj N a.B).bind λb=>
 (Pv N ByteArray.empty b).bind λc=>
 (Hj N (↑a.D.length:Int)).bind λd=>
 (Pv N c d).bind λg=>
 Jn N a (Ku N a) N 0 g
def N5 (N:Nat) (c:AF) (b:ByteArray):Option (AE×Bool):=
 (mE N b).bind λd=>
 (QI N d).bind λa=>
 (cond (!a.2.1) (some true) ((Jy N c a.1).bind λg=>
 some (!g))).bind λi=>
 (cond i (some true) ((NF N a.1).bind λj=>
 some (!(j==b)))).bind λk=>
 cond k (
 some ((⟨0,[],[],[],[],[],[]⟩:AE),false)) (
 some (a.1,true))
def Gh (N:Nat) (b:AF) (a:Int):Option Bool:=
 some ((decide (0≤a))&&(decide (a<(↑b.A.length:Int))))
def IT (N:Nat) (b:Int) (a:Int):Option (Int×Int):=
 some (b,a)
def IS (N:Nat) (a:Int) (b:Int→Int→Int→Option (Int×Int)) (c:Int) (d:Int):Option (Int×Int):=
 b c d (BC (a+1))
def KQ (N:Nat) (a:Int) (b:Int) (c:AJ) (k:EW) (l:Bool) (d:Int→Int→Option (Int×Int)) (g:Int):Option (Int×Int):=
 cond (((decide (k.Ao=a))&&(!l))&&(decide (c.Bd≠(-3)))) (
 (Ch N c.K).bind λi=>
 (Fm N b i).bind λj=>
 d g j) (
 d g b)
def GE (N:Nat) (c:AF) (b:(List AJ)) (a:Int) (i:Int→Int→Option (Int×Int)):Nat→Int→Int→Int→Option (Int×Int)
 |0,_,_,_=>none
 |p+1,j,k,g=>
 cond (decide (g<(↑b.length:Int))) (
 (ix b g).bind λd=>
 (Gh N c d.I).bind λq=>
 (cond (!q) (some true) ((cond (decide (d.C≠(-1))) ((Gh N c d.C).bind λs=>
 some (!s)) (some false)).bind λt=>
 some t)).bind λu=>
 cond u (
 IS N g (GE N c b a i p) j k) (
 (ix c.A d.I).bind λl=>
 (cond (decide (d.C≠(-1))) ((ix c.A d.C).bind λv=>
 some (decide (v.Ao=a))) (some false)).bind λm=>
 cond ((!(decide (l.Ao=a)))&&m) (
 (Ch N d.K).bind λn=>
 (Fm N j n).bind λo=>
 KQ N a k d l m (IS N g (GE N c b a i p)) o) (
 KQ N a k d l m (IS N g (GE N c b a i p)) j))) (
 i j k)
def N6 (N:Nat) (c:AF) (b:(List AJ)) (a:Int):Option (Int×Int):=
 GE N c b a (IT N) N 0 0 0
def Cj (N:Nat) (c:Int) (b:Int) (a:Int):Option Bool:=
 some ((decide (b≤c))&&(decide (c≤a)))
def CS (N:Nat) (a:Int):Option Bool:=
 (Cj N a 0 1125899906842624).bind λb=>
 some b
def EF (N:Nat) (a:AF) (c:Option Bool):Nat→Int→Option Bool
 |0,_=>none
 |i+1,b=>
 cond (decide (b<(↑a.Al.length:Int))) (
 (ix a.Al b).bind λd=>
 (CS N d).bind λg=>
 cond (!g) (
 some false) (
 EF N a c i (BC (b+1)))) (
 c)
def Gd (N:Nat):Option Bool:=
 some true
def EH (N:Nat) (a:AF):Option Bool:=
 EF N a (Gd N) N 0
def EG (N:Nat) (a:AF) (d:Option Bool):Nat→Int→Option Bool
 |0,_=>none
 |g+1,c=>
 cond (decide (c<(↑a.J.size:Int))) (
 (VM a.J c).bind λb=>
 cond ((((decide (b<32))||(decide (126<b)))||(decide (b=34)))||(decide (b=92))) (
 some false) (
 EG N a d g (BC (c+1)))) (
 d)
def Hg (N:Nat) (a:AF):Option Bool:=
 (cond (decide (500<(↑a.J.size:Int))) (some true) ((Cj N (↑a.F.length:Int) 1 16).bind λb=>
 some (!b))).bind λc=>
 (cond c (some true) ((Cj N a.P 0 64).bind λd=>
 some (!d))).bind λg=>
 (cond g (some true) ((Cj N (↑a.A.length:Int) 1 64).bind λi=>
 some (!i))).bind λj=>
 (cond ((((((j||(decide (96<(↑a.G.length:Int))))||(decide (40<(↑a.Ac.length:Int))))||(decide (128<(↑a.Af.length:Int))))||(decide (128<(↑a.Ag.length:Int))))||(decide (40<(↑a.Aj.length:Int))))||(decide ((↑a.Al.length:Int)≠3))) (some true) ((Cj N a.Q 0 1099511627776).bind λk=>
 some (!k))).bind λl=>
 cond l (
 some false) (
 EG N a (EH N a) N 0)
def Hh (N:Nat):Option Bool:=
 some true
def Fo (N:Nat) (a:ByteArray) (d:Option Bool):Nat→Int→Option Bool
 |0,_=>none
 |g+1,c=>
 cond (decide (c<(↑a.size:Int))) (
 (VM a c).bind λb=>
 cond ((((decide (b<97))||(decide (122<b)))&&((decide (b<48))||(decide (57<b))))&&(decide (b≠95))) (
 some false) (
 Fo N a d g (BC (c+1)))) (
 d)
def Jq (N:Nat) (a:ByteArray):Option Bool:=
 (cond (((decide ((↑a.size:Int)<1))||(decide (24<(↑a.size:Int))))||(a==(ByteArray.mk #[111,117,116]))) (some true) ((VM a 0).bind λb=>
 some (decide (b<97)))).bind λc=>
 (cond c (some true) ((VM a 0).bind λd=>
 some (decide (122<d)))).bind λg=>
 cond g (
 some false) (
 Fo N a (Hh N) N 1)
def H5 (N:Nat) (a:(List (AG×Bool))) (b:ByteArray) (d:ByteArray):Option (Bool×(List (AG×Bool))):=
 (Jq N b).bind λc=>
 cond ((!c)||((MN (λk:AG=>Value.agg (AG.v k).toArray) a (⟨d,b⟩:AG)).getD false)) (
 some (false,a)) (
 some (true,(N1 (λk:AG=>Value.agg (AG.v k).toArray) a (⟨d,b⟩:AG) true)))
def KM (N:Nat) (a:(List (AG×Bool))) (b:ByteArray) (c:ByteArray):Option (Bool×(List (AG×Bool))):=
 cond (b==(ByteArray.mk #[115,104,101,108,116,101,114])) (
 H5 N a c (ByteArray.mk #[116,111,119,110])) (
 H5 N a c b)
def C2 (N:Nat) (c2_:(List (AG×Bool))) (c3_:Bool) (a:ByteArray) (b:ByteArray):Option ((List (AG×Bool))×Bool):=
 (KM N c2_ a b).bind λc=>
 some (c.2,(c.1&&c3_))
def DP (N:Nat) (a:AF) (d:Bool→((List (AG×Bool)))→Option Bool):Nat→Int→Bool→((List (AG×Bool)))→Option Bool
 |0,_,_,_=>none
 |k+1,c,g,i=>
 cond (decide (c<(↑a.A.length:Int))) (
 (ix a.A c).bind λj=>
 (C2 N i g (ByteArray.mk #[112,108,97,99,101]) j.J).bind λb=>
 DP N a d k (BC (c+1)) b.2 b.1) (
 d g i)
def DO (N:Nat) (a:AF) (i:Bool→((List (AG×Bool)))→Option Bool):Nat→Int→Bool→((List (AG×Bool)))→Option Bool
 |0,_,_,_=>none
 |k+1,b,c,d=>
 cond (decide (b<(↑a.G.length:Int))) (
 (ix a.G b).bind λj=>
 (C2 N d c (ByteArray.mk #[108,105,110,107]) j.J).bind λg=>
 DO N a i k (BC (b+1)) g.2 g.1) (
 i c d)
def DN (N:Nat) (a:AF) (i:Bool→((List (AG×Bool)))→Option Bool):Nat→Int→Bool→((List (AG×Bool)))→Option Bool
 |0,_,_,_=>none
 |k+1,b,c,d=>
 cond (decide (b<(↑a.Ac.length:Int))) (
 (ix a.Ac b).bind λj=>
 (C2 N d c (ByteArray.mk #[116,111,119,110]) j.J).bind λg=>
 DN N a i k (BC (b+1)) g.2 g.1) (
 i c d)
def DM (N:Nat) (a:AF) (i:Bool→((List (AG×Bool)))→Option Bool):Nat→Int→Bool→((List (AG×Bool)))→Option Bool
 |0,_,_,_=>none
 |k+1,b,c,d=>
 cond (decide (b<(↑a.Aj.length:Int))) (
 (ix a.Aj b).bind λj=>
 (C2 N d c (ByteArray.mk #[115,104,101,108,116,101,114]) j.J).bind λg=>
 DM N a i k (BC (b+1)) g.2 g.1) (
 i c d)
def DD (N:Nat) (a:AF) (c:Bool→((List (AG×Bool)))→Option Bool):Nat→Int→Bool→((List (AG×Bool)))→Option Bool
 |0,_,_,_=>none
 |k+1,b,d,g=>
 cond (decide (b<(↑a.Af.length:Int))) (
 (ix a.Af b).bind λj=>
 (C2 N g d (ByteArray.mk #[103,97,117,103,101]) j.J).bind λi=>
 DD N a c k (BC (b+1)) i.2 i.1) (
 c d g)
def DC (N:Nat) (a:AF) (c:Bool→Option Bool):Nat→Int→Bool→((List (AG×Bool)))→Option Bool
 |0,_,_,_=>none
 |k+1,b,d,i=>
 cond (decide (b<(↑a.Ag.length:Int))) (
 (ix a.Ag b).bind λj=>
 (C2 N i d (ByteArray.mk #[114,111,97,100]) j.J).bind λg=>
 DC N a c k (BC (b+1)) g.2 g.1) (
 c d)
def EM (N:Nat) (a:Bool):Option Bool:=
 some a
def EN (N:Nat) (a:AF) (b:Bool) (c:(List (AG×Bool))):Option Bool:=
 DC N a (EM N) N 0 b c
def Ef (N:Nat) (a:AF) (b:Bool) (c:(List (AG×Bool))):Option Bool:=
 DD N a (EN N a) N 0 b c
def Eg (N:Nat) (a:AF) (b:Bool) (c:(List (AG×Bool))):Option Bool:=
 DM N a (Ef N a) N 0 b c
def Eh (N:Nat) (a:AF) (b:Bool) (c:(List (AG×Bool))):Option Bool:=
 DN N a (Eg N a) N 0 b c
def Ei (N:Nat) (a:AF) (b:Bool) (c:(List (AG×Bool))):Option Bool:=
 DO N a (Eh N a) N 0 b c
def Ej (N:Nat) (a:AF) (b:Bool) (c:(List (AG×Bool))):Option Bool:=
 DP N a (Ei N a) N 0 b c
def DQ (N:Nat) (a:AF) (c:Bool→((List (AG×Bool)))→Option Bool):Nat→Int→Bool→((List (AG×Bool)))→Option Bool
 |0,_,_,_=>none
 |k+1,b,d,g=>
 cond (decide (b<(↑a.F.length:Int))) (
 (ix a.F b).bind λj=>
 (C2 N g d (ByteArray.mk #[111,119,110,101,114]) j).bind λi=>
 DQ N a c k (BC (b+1)) i.2 i.1) (
 c d g)
def JF (N:Nat) (a:AF):Option Bool:=
 DQ N a (Ej N a) N 0 true ([]:(List (AG×Bool)))
def HG (N:Nat) (a:Int) (b:Int):Option Bool:=
 (CS N a).bind λc=>
 (cond c ((CS N b).bind λd=>
 some d) (some false)).bind λg=>
 some (g&&((decide (b≠0))||(decide (a=0))))
def FC (N:Nat) (b:Int) (a:Int):Option Bool:=
 (Cj N b 0 (BC (a-1))).bind λc=>
 some c
def I3 (N:Nat) (c:AF) (b:Int) (a:Int):Option Bool:=
 (cond (decide (a=(-1))) (some true) ((FC N a (↑c.A.length:Int)).bind λd=>
 some (d&&(decide (a≠b))))).bind λg=>
 some g
def CA (N:Nat) (a:Int):Option Bool:=
 some (decide (a≤1125899906842624))
def DB (N:Nat) (d:EW) (g:Int→Option Bool):Nat→Int→Int→Option Bool
 |0,_,_=>none
 |j+1,b,a=>
 cond (decide (a<(↑d.Be.length:Int))) (
 (ix d.Be a).bind λc=>
 (CS N c).bind λi=>
 cond (!i) (
 some false) (
 DB N d g j (BC (b+c)) (BC (a+1)))) (
 g b)
def DA (N:Nat) (c:AF) (g:EW) (d:Int) (i:Int→Option Bool):Nat→Int→Int→Option Bool
 |0,_,_=>none
 |m+1,j,b=>
 cond (decide (b<(↑g.Aa.length:Int))) (
 (ix g.Aa b).bind λa=>
 (cond ((decide (a.Bh≤j))||(decide (c.P≤a.Bh))) (some true) ((CS N a.Bm).bind λk=>
 some (!k))).bind λl=>
 cond l (
 some false) (
 DA N c g d i m a.Bh (BC (b+1)))) (
 i d)
def EL (N:Nat) (a:AF) (c:EW) (d:Int→Option Bool) (b:Int):Option Bool:=
 DA N a c b d N (-1) 0
def Cr (N:Nat) (a:Int) (b:Int→Int→Option Bool) (c:Int):Option Bool:=
 b c (BC (a+1))
def Bw (N:Nat) (b:AF) (d:Int→Option Bool):Nat→Int→Int→Option Bool
 |0,_,_=>none
 |y+1,g,c=>
 cond (decide (c<(↑b.A.length:Int))) (
 (ix b.A c).bind λa=>
 (Cj N a.H 0 3).bind λj=>
 (cond (!j) (some true) ((Cj N a.Ao 0 2).bind λk=>
 some (!k))).bind λl=>
 (cond l (some true) ((Cj N a.S 0 240).bind λm=>
 some (!m))).bind λn=>
 (cond n (some true) ((CS N a.Au).bind λo=>
 some (!o))).bind λp=>
 (cond p (some true) ((CS N a.Bf).bind λq=>
 some (!q))).bind λs=>
 (cond s (some true) ((Eb N a.Bn).bind λt=>
 some (!t))).bind λu=>
 (cond (u||(decide ((↑a.Be.length:Int)≠(↑b.F.length:Int)))) (some true) ((HG N a.Y a.T).bind λv=>
 some (!v))).bind λw=>
 (cond w (some true) ((I3 N b c a.Ap).bind λi=>
 some (!i))).bind λx=>
 cond x (
 some false) (
 DB N a (EL N b a (Cr N c (Bw N b d y))) N g 0)) (
 d g)
def Hq (N:Nat) (a:AF):Option Bool:=
 Bw N a (CA N) N 0 0
def GZ (N:Nat) (b:(List BT)) (a:(List BT)) (i:Option Bool):Nat→Int→Option Bool
 |0,_=>none
 |j+1,c=>
 cond (decide (c<(↑a.length:Int))) (
 (ix a c).bind λd=>
 (Il N b d.R).bind λg=>
 cond ((decide (d.W<g.1))||((decide (g.1=d.W))&&g.2)) (
 some false) (
 GZ N b a i j (BC (c+1)))) (
 i)
def H4 (N:Nat):Option Bool:=
 some true
def Gb (N:Nat) (a:(List BT)) (b:(List BT)):Option Bool:=
 GZ N a b (H4 N) N 0
def Ga (N:Nat) (a:(List BT)) (b:(List BT)) (d:Option Bool):Nat→Int→Option Bool
 |0,_=>none
 |j+1,c=>
 cond (decide (c<(↑a.length:Int))) (
 (ix a c).bind λg=>
 (Il N b g.R).bind λi=>
 cond (decide (i.1<g.W)) (
 some false) (
 Ga N a b d j (BC (c+1)))) (
 d)
def H0 (N:Nat) (a:(List BT)) (b:(List BT)):Option Bool:=
 (Eb N a).bind λc=>
 (cond (!c) (some true) ((Eb N b).bind λd=>
 some (!d))).bind λg=>
 cond g (
 some false) (
 Ga N a b (Gb N a b) N 0)
def Dm (N:Nat) (a:BO) (b:Bool):Option Bool:=
 cond b (
 (CS N a.Bb).bind λc=>
 (cond c ((CS N a.Y).bind λd=>
 some d) (some false)).bind λg=>
 (cond g ((Cj N a.T 1 1125899906842624).bind λi=>
 some i) (some false)).bind λj=>
 some j) (
 cond (decide (a.H=2)) (
 (CS N a.Y).bind λk=>
 (cond k ((Cj N a.U 1 64).bind λl=>
 some l) (some false)).bind λm=>
 (cond m ((Cj N a.Ad 0 a.U).bind λn=>
 some n) (some false)).bind λo=>
 some o) (
 cond (decide (a.H=3)) (
 (CS N a.Y).bind λp=>
 (cond p ((Cj N a.T 1 1125899906842624).bind λq=>
 some q) (some false)).bind λs=>
 (cond s ((CS N a.Aw).bind λt=>
 some t) (some false)).bind λu=>
 (cond u ((CS N a.Ax).bind λv=>
 some v) (some false)).bind λw=>
 some (w&&(decide (a.Ax<a.Aw)))) (
 (CS N a.Y).bind λx=>
 (cond x ((Cj N a.T 1 1125899906842624).bind λy=>
 some y) (some false)).bind λz=>
 (cond z ((HG N a.Ar a.An).bind λA=>
 some A) (some false)).bind λB=>
 some (B&&(decide (a.C≠(-1)))))))
def Fh (N:Nat) (a:BO):Option Bool:=
 cond (decide (a.H=0)) (
 (Eb N a.Av).bind λb=>
 (cond b ((Eb N a.Ah.Ay).bind λc=>
 some c) (some false)).bind λd=>
 (cond d ((Eb N a.Ah.Az).bind λg=>
 some g) (some false)).bind λi=>
 (cond i ((H0 N a.Ah.Ay a.Av).bind λj=>
 some j) (some false)).bind λk=>
 (cond k ((H0 N a.Av a.Ah.Az).bind λl=>
 some l) (some false)).bind λm=>
 (cond m ((Cj N a.U 0 64).bind λn=>
 some n) (some false)).bind λo=>
 (cond o ((Cj N a.Ad 0 a.U).bind λp=>
 some p) (some false)).bind λq=>
 (cond q ((CS N a.Ba).bind λs=>
 some s) (some false)).bind λt=>
 (cond t ((HG N a.Ar a.An).bind λu=>
 some u) (some false)).bind λv=>
 some (v&&((decide (a.C≠(-1)))||(decide (a.An=0))))) (
 cond (decide (a.H=1)) (
 Dm N a (decide (a.H=1))) (
 Dm N a (decide (a.H=5))))
def Fg (N:Nat) (a:BO):Option Bool:=
 cond ((!(decide (a.H=0)))&&((((decide (0<(↑a.Av.length:Int)))||(decide (0<(↑a.Ah.Ay.length:Int))))||(decide (0<(↑a.Ah.Az.length:Int))))||(decide (a.Ba≠0)))) (
 some false) (
 cond (((!(decide (a.H=0)))&&(decide (a.H≠2)))&&((decide (a.U≠0))||(decide (a.Ad≠0)))) (
 some false) (
 cond (((decide (a.H≠1))&&(decide (a.H≠5)))&&(decide (a.Bb≠0))) (
 some false) (
 cond (((decide (a.H=0))&&(decide (a.Y≠0)))||(((decide (a.H=0))||(decide (a.H=2)))&&(decide (a.T≠0)))) (
 some false) (
 cond ((decide (a.H≠3))&&((decide (a.Aw≠0))||(decide (a.Ax≠0)))) (
 some false) (
 some (((decide (a.H=0))||(decide (a.H=4)))||((decide (a.Ar=0))&&(decide (a.An=0)))))))))
def DT (N:Nat):Option Bool:=
 some true
def Cm (N:Nat) (a:AF) (d:Option Bool):Nat→Int→Option Bool
 |0,_=>none
 |t+1,c=>
 cond (decide (c<(↑a.G.length:Int))) (
 (ix a.G c).bind λb=>
 (Cj N b.H 0 5).bind λg=>
 (cond (!g) (some true) ((FC N b.I (↑a.A.length:Int)).bind λi=>
 some (!i))).bind λj=>
 (cond j (some true) ((I3 N a b.I b.C).bind λk=>
 some (!k))).bind λl=>
 (cond l (some true) ((Cj N b.S 0 240).bind λm=>
 some (!m))).bind λn=>
 (cond n (some true) ((Fh N b).bind λo=>
 some (!o))).bind λp=>
 (cond p (some true) ((Fg N b).bind λq=>
 some (!q))).bind λs=>
 cond s (
 some false) (
 Cm N a d t (BC (c+1)))) (
 d)
def E6 (N:Nat) (a:AF):Option Bool:=
 Cm N a (DT N) N 0
def J3 (N:Nat) (c:AF) (a:Int) (b:Int):Option Bool:=
 cond (decide (b=(-1))) (
 some (decide (a=2))) (
 (ix c.A b).bind λd=>
 some ((decide (d.Ao=a))||(decide (d.Ao=(BC (a+1))))))
def DU (N:Nat) (a:AF) (g:Option Bool):Nat→Int→Option Bool
 |0,_=>none
 |m+1,d=>
 cond (decide (d<(↑a.G.length:Int))) (
 (ix a.G d).bind λb=>
 (ix a.A b.I).bind λc=>
 (J3 N a c.Ao b.C).bind λi=>
 (cond (!i) (some true) ((cond (decide (b.H=4)) ((ix a.A b.C).bind λj=>
 some (decide (j.Ao≠c.Ao))) (some false)).bind λk=>
 some k)).bind λl=>
 cond l (
 some false) (
 DU N a g m (BC (d+1)))) (
 g)
def Ep (N:Nat):Option Bool:=
 some true
def DW (N:Nat) (a:AF):Option Bool:=
 DU N a (Ep N) N 0
def DV (N:Nat) (a:AF) (c:Option Bool):Nat→Int→Option Bool
 |0,_=>none
 |i+1,b=>
 cond (decide (b<(↑a.A.length:Int))) (
 (ix a.A b).bind λd=>
 (J3 N a d.Ao d.Ap).bind λg=>
 cond (!g) (
 some false) (
 DV N a c i (BC (b+1)))) (
 c)
def HY (N:Nat) (a:AF):Option Bool:=
 DV N a (DW N a) N 0
def J2 (N:Nat) (a:Int):Option Int:=
 some (BC a)
def Fy (N:Nat) (b:Int) (a:Int):Option Int:=
 cond (decide (a=0)) (
 some 0) (
 cond (decide (a<b)) (
 some 1099511627777) (
 (Hf N (IntKind.wrap .u64 b) 1099511627776).bind λd=>
 (Fl N d.1 d.2 (IntKind.wrap .u64 a)).bind λc=>
 cond (decide (c.2≠0)) (
 J2 N (IntKind.wrap .u64 (c.1+1))) (
 J2 N c.1)))
def D7 (N:Nat) (a:Int):Option Int:=
 some a
def Ee (N:Nat) (a:(List BT)) (c:Int→Option Int):Nat→Int→Int→Option Int
 |0,_,_=>none
 |m+1,d,b=>
 cond (decide (b<(↑a.length:Int))) (
 (ix a b).bind λg=>
 (ix a (BC (b-1))).bind λi=>
 (ix a b).bind λj=>
 (ix a (BC (b-1))).bind λk=>
 (Fy N (BC (g.W-i.W)) (BC (j.R-k.R))).bind λl=>
 Ee N a c m (max d l) (BC (b+1))) (
 c d)
def Ff (N:Nat) (a:Int) (b:Int→Int→Option Int) (c:Int):Option Int:=
 b c (BC (a+1))
def C8 (N:Nat) (a:(List (List BT))) (c:Int→Option Int):Nat→Int→Int→Option Int
 |0,_,_=>none
 |i+1,g,b=>
 cond (decide (b<(↑a.length:Int))) (
 (ix a b).bind λd=>
 Ee N d (Ff N b (C8 N a c i)) N g 1) (
 c g)
def I4 (N:Nat) (a:(List (List BT))):Option Int:=
 C8 N a (D7 N) N 0 0
def Cc (N:Nat) (b:Int) (c:Int→(List Int)→Option Bool) (a:List Int):Option Bool:=
 c (BC (b+1)) a
def Di (N:Nat) (b:List Int) (a:BO) (g:(List Int)→Option Bool) (i:Bool):Option Bool:=
 cond i (
 (ix b a.I).bind λn=>
 (ix b a.I).bind λj=>
 (Fy N a.Y a.T).bind λk=>
 (ix b a.I).bind λo=>
 (ix b a.I).bind λp=>
 g (upd b a.I (BC (j+k)))) (
 cond (decide (a.H=4)) (
 (ix b a.I).bind λq=>
 (ix b a.I).bind λc=>
 (Fy N a.Y a.T).bind λd=>
 (ix b a.I).bind λs=>
 (ix b a.I).bind λt=>
 (ix (upd b a.I (BC (c+(BC (2*d))))) a.C).bind λu=>
 (ix (upd b a.I (BC (c+(BC (2*d))))) a.C).bind λl=>
 (Fy N a.Ar a.An).bind λm=>
 (ix (upd b a.I (BC (c+(BC (2*d))))) a.C).bind λv=>
 (ix (upd b a.I (BC (c+(BC (2*d))))) a.C).bind λw=>
 g (upd (upd b a.I (BC (c+(BC (2*d))))) a.C (BC (l+(BC (2*m)))))) (
 g b))
def Hu (N:Nat) (b:Bool→Option Bool) (a:Bool):Option Bool:=
 b a
def BU (N:Nat) (c:AF) (j:(List Int)→Option Bool):Nat→Int→(List Int)→Option Bool
 |0,_,_=>none
 |k+1,i,b=>
 cond (decide (i<(↑c.G.length:Int))) (
 (ix c.G i).bind λa=>
 cond (decide (a.H=0)) (
 (ix b a.I).bind λn=>
 (ix b a.I).bind λd=>
 (I4 N ([a.Av,a.Ah.Ay,a.Ah.Az]:List (List BT))).bind λg=>
 (ix b a.I).bind λo=>
 (ix b a.I).bind λp=>
 cond (decide (a.C≠(-1))) (
 (ix (upd b a.I (BC (d+g))) a.C).bind λq=>
 (ix (upd b a.I (BC (d+g))) a.C).bind λl=>
 (Fy N a.Ar a.An).bind λm=>
 (ix (upd b a.I (BC (d+g))) a.C).bind λs=>
 (ix (upd b a.I (BC (d+g))) a.C).bind λt=>
 Cc N i (BU N c j k) (upd (upd b a.I (BC (d+g))) a.C (BC (l+m)))) (
 Cc N i (BU N c j k) (upd b a.I (BC (d+g))))) (
 cond (decide (a.H=1)) (
 Di N b a (Cc N i (BU N c j k)) (decide (a.H=1))) (
 cond (decide (a.H=5)) (
 Hu N (Di N b a (Cc N i (BU N c j k))) (decide (a.H=5))) (
 Hu N (Di N b a (Cc N i (BU N c j k))) (decide (a.H=3)))))) (
 j b)
def Dg (N:Nat) (b:List Int) (c:Option Bool):Nat→Int→Option Bool
 |0,_=>none
 |i+1,a=>
 cond (decide (a<(↑b.length:Int))) (
 (ix b a).bind λg=>
 (ix b a).bind λd=>
 cond (decide (1099511627776<d)) (
 some false) (
 Dg N b c i (BC (a+1)))) (
 c)
def FV (N:Nat):Option Bool:=
 some true
def Cq (N:Nat) (a:List Int):Option Bool:=
 Dg N a (FV N) N 0
def Dj (N:Nat) (a:AF) (b:List Int):Option Bool:=
 BU N a (Cq N) N 0 b
def Dh (N:Nat) (b:AF) (d:(List Int)→Option Bool):Nat→Int→(List Int)→Option Bool
 |0,_,_=>none
 |j+1,a,c=>
 cond (decide (a<(↑b.A.length:Int))) (
 (ix b.A a).bind λg=>
 (Fy N g.Y g.T).bind λi=>
 (ix c a).bind λk=>
 (ix c a).bind λl=>
 Dh N b d j (BC (a+1)) (upd c a i)) (
 d c)
def Hp (N:Nat) (a:AF):Option Bool:=
 chk (KX (↑a.A.length:Int) (↑a.A.length:Int) 8) <|
 Dh N a (Dj N a) N 0 (List.replicate ((↑a.A.length:Int):Int).toNat (0:Int))
def Dy (N:Nat) (a:AF) (c:Option Bool):Nat→Int→Option Bool
 |0,_=>none
 |i+1,b=>
 cond (decide (b<(↑a.Aj.length:Int))) (
 (ix a.Aj b).bind λd=>
 (Cj N d.Al 0 1073741824).bind λg=>
 cond (!g) (
 some false) (
 Dy N a c i (BC (b+1)))) (
 c)
def Fs (N:Nat):Option Bool:=
 some true
def D0 (N:Nat) (a:AF):Option Bool:=
 Dy N a (Fs N) N 0
def Dz (N:Nat) (a:AF) (d:Option Bool):Nat→Int→Option Bool
 |0,_=>none
 |t+1,c=>
 cond (decide (c<(↑a.Ac.length:Int))) (
 (ix a.Ac c).bind λb=>
 (FC N b.Aq (↑a.A.length:Int)).bind λg=>
 (cond (!g) (some true) ((CS N b.Bo).bind λi=>
 some (!i))).bind λj=>
 (cond j (some true) ((Cj N b.Bl 0 24).bind λk=>
 some (!k))).bind λl=>
 (cond l (some true) ((Cj N b.Br 0 1073741824).bind λm=>
 some (!m))).bind λn=>
 (cond n (some true) ((CS N b.Bp).bind λo=>
 some (!o))).bind λp=>
 (cond p (some true) ((Cj N b.Bk 0 128).bind λq=>
 some (!q))).bind λs=>
 cond s (
 some false) (
 Dz N a d t (BC (c+1)))) (
 d)
def ID (N:Nat) (a:AF):Option Bool:=
 Dz N a (D0 N a) N 0
def FW (N:Nat):Option Bool:=
 some true
def Dk (N:Nat) (a:AF) (d:Option Bool):Nat→Int→Option Bool
 |0,_=>none
 |o+1,c=>
 cond (decide (c<(↑a.Af.length:Int))) (
 (ix a.Af c).bind λb=>
 (Cj N b.H 0 2).bind λg=>
 (cond (!g) (some true) ((Cj N b.Q 0 1099511627776).bind λi=>
 some (!i))).bind λj=>
 (cond j (some true) ((Cj N b.Bq 0 1440).bind λk=>
 some (!k))).bind λl=>
 cond l (
 some false) (
 (ix ([(↑a.A.length:Int),a.P,(↑a.G.length:Int)]:List Int) b.H).bind λm=>
 (FC N b.X m).bind λn=>
 cond (!n) (
 some false) (
 Dk N a d o (BC (c+1))))) (
 d)
def Hr (N:Nat) (a:AF):Option Bool:=
 Dk N a (FW N) N 0
def Ft (N:Nat):Option Bool:=
 some true
def D2 (N:Nat) (a:AF) (d:Option Bool):Nat→Int→Option Bool
 |0,_=>none
 |u+1,c=>
 cond (decide (c<(↑a.Ag.length:Int))) (
 (ix a.Ag c).bind λb=>
 (FC N b.I (↑a.Ac.length:Int)).bind λg=>
 (cond (!g) (some true) ((FC N b.C (BC ((↑a.Ac.length:Int)+(↑a.Aj.length:Int)))).bind λi=>
 some (!i))).bind λj=>
 (cond (j||(decide (b.I=b.C))) (some true) ((Cj N b.Bs 1 24).bind λk=>
 some (!k))).bind λl=>
 (cond l (some true) ((Cj N b.Bt 0 1073741824).bind λm=>
 some (!m))).bind λn=>
 (cond n (some true) ((CS N b.Bj).bind λo=>
 some (!o))).bind λp=>
 cond p (
 some false) (
 (cond ((decide (b.Bi=(-1)))&&(decide (b.Bj≠0))) (some true) ((cond (decide (b.Bi≠(-1))) ((FC N b.Bi (↑a.A.length:Int)).bind λq=>
 some (!q)) (some false)).bind λs=>
 some s)).bind λt=>
 cond t (
 some false) (
 D2 N a d u (BC (c+1))))) (
 d)
def IE (N:Nat) (a:AF):Option Bool:=
 D2 N a (Ft N) N 0
def F5 (N:Nat) (a:AF):Option Bool:=
 (Hg N a).bind λv=>
 (cond v ((JF N a).bind λb=>
 some b) (some false)).bind λc=>
 (cond c ((Hq N a).bind λd=>
 some d) (some false)).bind λg=>
 (cond g ((E6 N a).bind λi=>
 some i) (some false)).bind λj=>
 (cond j ((HY N a).bind λk=>
 some k) (some false)).bind λl=>
 (cond l ((Hp N a).bind λm=>
 some m) (some false)).bind λn=>
 (cond n ((ID N a).bind λo=>
 some o) (some false)).bind λp=>
 (cond p ((Hr N a).bind λq=>
 some q) (some false)).bind λs=>
 (cond s ((IE N a).bind λt=>
 some t) (some false)).bind λu=>
 some u
def G5 (N:Nat):Option Bool:=
 some true
def Fb (N:Nat) (a:(List Int)) (b:(List Int)) (c:Option Bool):Nat→Int→Option Bool
 |0,_=>none
 |j+1,d=>
 cond (decide (d<(↑a.length:Int))) (
 (ix a d).bind λg=>
 (ix b d).bind λi=>
 cond (decide (g≠i)) (
 some false) (
 Fb N a b c j (BC (d+1)))) (
 c)
def EK (N:Nat) (a:(List Int)) (b:(List Int)):Option Bool:=
 cond (decide ((↑a.length:Int)≠(↑b.length:Int))) (
 some false) (
 Fb N a b (G5 N) N 0)
def Gr (N:Nat):Option Bool:=
 some true
def E4 (N:Nat) (a:(List (List Int))) (b:(List (List Int))) (c:Option Bool):Nat→Int→Option Bool
 |0,_=>none
 |k+1,d=>
 cond (decide (d<(↑a.length:Int))) (
 (ix a d).bind λg=>
 (ix b d).bind λi=>
 (EK N g i).bind λj=>
 cond (!j) (
 some false) (
 E4 N a b c k (BC (d+1)))) (
 c)
def I2 (N:Nat) (a:(List (List Int))) (b:(List (List Int))):Option Bool:=
 cond (decide ((↑a.length:Int)≠(↑b.length:Int))) (
 some false) (
 E4 N a b (Gr N) N 0)
def Gq (N:Nat):Option Bool:=
 some true
def E3 (N:Nat) (a:(List AM)) (b:(List AM)) (d:Option Bool):Nat→Int→Option Bool
 |0,_=>none
 |q+1,c=>
 cond (decide (c<(↑a.length:Int))) (
 (ix a c).bind λg=>
 (ix b c).bind λi=>
 (cond (decide (g.Z≠i.Z)) (some true) ((ix a c).bind λj=>
 (ix b c).bind λk=>
 some (decide (j.C≠k.C)))).bind λl=>
 (cond l (some true) ((ix a c).bind λm=>
 (ix b c).bind λn=>
 (EK N m.K n.K).bind λo=>
 some (!o))).bind λp=>
 cond p (
 some false) (
 E3 N a b d q (BC (c+1)))) (
 d)
def I1 (N:Nat) (a:(List AM)) (b:(List AM)):Option Bool:=
 cond (decide ((↑a.length:Int)≠(↑b.length:Int))) (
 some false) (
 E3 N a b (Gq N) N 0)
def Gp (N:Nat):Option Bool:=
 some true
def E2 (N:Nat) (a:(List AT)) (b:(List AT)) (c:Option Bool):Nat→Int→Option Bool
 |0,_=>none
 |j+1,d=>
 cond (decide (d<(↑a.length:Int))) (
 (ix a d).bind λg=>
 (ix b d).bind λi=>
 cond (!(Wq g.v i.v)) (
 some false) (
 E2 N a b c j (BC (d+1)))) (
 c)
def I0 (N:Nat) (a:(List AT)) (b:(List AT)):Option Bool:=
 cond (decide ((↑a.length:Int)≠(↑b.length:Int))) (
 some false) (
 E2 N a b (Gp N) N 0)
def JE (N:Nat) (a:AE) (b:AE):Option Bool:=
 (I2 N a.D b.D).bind λg=>
 (EK N a.M b.M).bind λi=>
 (I1 N a.E b.E).bind λj=>
 (EK N a.N b.N).bind λk=>
 (EK N a.L b.L).bind λl=>
 (cond ((((((decide (a.B=b.B))&&g)&&i)&&j)&&k)&&l) ((I0 N a.O b.O).bind λc=>
 some c) (some false)).bind λd=>
 some d
def KJ (N:Nat) (a:Int) (b:List (List Int)) (c:List Int) (d:List AM) (g:List AT) (i:List Int) (j:List Int):Option AE:=
 some (⟨a,b,c,d,g,i,j⟩:AE)
def Hw (N:Nat) (c:AF) (b:(List Ck)) (g:Int→(List (List Int))→(List Int)→(List AM)→(List AT)→(List Int)→(List Int)→Option AE):Nat→Int→Int→(List (List Int))→(List Int)→(List AM)→(List AT)→(List Int)→(List Int)→Option AE
 |0,_,_,_,_,_,_,_,_=>none
 |q+1,d,i,j,k,l,m,n,o=>
 cond (decide (d<(↑b.length:Int))) (
 (ix b d).bind λp=>
 (GR N c (⟨i,j,k,l,m,n,o⟩:AE) p).bind λa=>
 Hw N c b g q (BC (d+1)) a.1.B a.1.D a.1.M a.1.E a.1.O a.1.N a.1.L) (
 g i j k l m n o)
def LO (N:Nat) (c:AF) (a:AE) (b:(List Ck)):Option AE:=
 Hw N c b (KJ N) N 0 a.B a.D a.M a.E a.O a.N a.L
def JS (N:Nat):Option Bool:=
 some true
def Hv (N:Nat) (a:(List Int)) (c:Option Bool):Nat→Int→Option Bool
 |0,_=>none
 |g+1,b=>
 cond (decide (b<(↑a.length:Int))) (
 (ix a b).bind λd=>
 cond ((decide (d<0))||(decide (2305843009213693952<d))) (
 some false) (
 Hv N a c g (BC (b+1)))) (
 c)
def JC (N:Nat) (b:AF) (a:(List Int)):Option Bool:=
 cond (decide ((↑a.length:Int)≠(↑b.F.length:Int))) (
 some false) (
 Hv N a (JS N) N 0)
def Ew (N:Nat) (a:AF) (b:AE) (g:Option Bool):Nat→Int→Option Bool
 |0,_=>none
 |l+1,d=>
 cond (decide (d<(↑b.E.length:Int))) (
 (ix b.E d).bind λc=>
 (Gh N a c.C).bind λi=>
 (cond (!i) (some true) ((JC N a c.K).bind λj=>
 some (!j))).bind λk=>
 cond k (
 some false) (
 Ew N a b g l (BC (d+1)))) (
 g)
def H8 (N:Nat):Option Bool:=
 some true
def Ex (N:Nat) (a:AF) (b:AE):Option Bool:=
 Ew N a b (H8 N) N 0
def EI (N:Nat) (b:AF) (a:AE) (d:Option Bool):Nat→Int→Option Bool
 |0,_=>none
 |j+1,c=>
 cond (decide (c<(↑a.D.length:Int))) (
 (ix a.D c).bind λg=>
 (JC N b g).bind λi=>
 cond (!i) (
 some false) (
 EI N b a d j (BC (c+1)))) (
 d)
def IR (N:Nat) (a:AF) (b:AE):Option Bool:=
 (cond (decide ((↑b.D.length:Int)≠(↑a.A.length:Int))) (some true) ((JC N a b.N).bind λc=>
 some (!c))).bind λd=>
 (cond d (some true) ((JC N a b.L).bind λg=>
 some (!g))).bind λi=>
 cond i (
 some false) (
 EI N a b (Ex N a b) N 0)
def Jl (N:Nat) (b:AF) (a:AJ):Option Bool:=
 (JC N b a.K).bind λc=>
 (cond c ((cond (decide (a.I=(-1))) (some true) ((Gh N b a.I).bind λd=>
 some d)).bind λg=>
 some g) (some false)).bind λi=>
 (cond i ((cond (decide (a.C=(-1))) (some true) ((Gh N b a.C).bind λj=>
 some j)).bind λk=>
 some k) (some false)).bind λl=>
 some l
def Jk (N:Nat) (p0_w:AI) (a:Int):Option AI:=
 (some (BC (p0_w.hi+(BC ((Kn p0_w.lo (IntKind.wrap .u64 a) 0).2))))).bind λb=>
 some (⟨b,((Kn p0_w.lo (IntKind.wrap .u64 a) 0).1)⟩:AI)
def Dw (N:Nat) (b:Int) (a:Int) (c:(List Int)):Nat→Int→((List (AA×AI)))→Option (List (AA×AI))
 |0,_,_=>none
 |l+1,d,g=>
 cond (decide (d<(↑c.length:Int))) (
 (ix c d).bind λi=>
 (Jk N (⟨(BC (((MN (λk:AA=>Value.agg (AA.v k).toArray) g (⟨b,a,d⟩:AA)).getD (⟨0,0⟩:AI)).hi)),(IntKind.wrap .u64 (((MN (λk:AA=>Value.agg (AA.v k).toArray) g (⟨b,a,d⟩:AA)).getD (⟨0,0⟩:AI)).lo))⟩:AI) i).bind λj=>
 Dw N b a c l (BC (d+1)) (N1 (λk:AA=>Value.agg (AA.v k).toArray) g (⟨b,a,d⟩:AA) j)) (
 some g)
def EJ (N:Nat) (d:(List (AA×AI))) (b:Int) (a:Int) (c:(List Int)):Option (List (AA×AI)):=
 Dw N b a c N 0 d
def CX (N:Nat) (a:AE) (c:((List (AA×AI)))→Option (List (AA×AI))):Nat→Int→((List (AA×AI)))→Option (List (AA×AI))
 |0,_,_=>none
 |j+1,b,d=>
 cond (decide (b<(↑a.E.length:Int))) (
 (ix a.E b).bind λg=>
 (EJ N d 0 g.C g.K).bind λi=>
 CX N a c j (BC (b+1)) i) (
 c d)
def CZ (N:Nat) (a:AE) (c:(List (AA×AI))):Option (List (AA×AI)):=
 (EJ N c 1 (-1) a.N).bind λd=>
 (EJ N d 2 (-1) a.L).bind λb=>
 some b
def Ca (N:Nat) (a:AE) (b:(List (AA×AI))):Option (List (AA×AI)):=
 CX N a (CZ N a) N 0 b
def CY (N:Nat) (a:AE) (c:((List (AA×AI)))→Option (List (AA×AI))):Nat→Int→((List (AA×AI)))→Option (List (AA×AI))
 |0,_,_=>none
 |j+1,b,d=>
 cond (decide (b<(↑a.D.length:Int))) (
 (ix a.D b).bind λg=>
 (EJ N d 0 b g).bind λi=>
 CY N a c j (BC (b+1)) i) (
 c d)
def Fa (N:Nat) (b:(List (AA×AI))) (a:AE):Option (List (AA×AI)):=
 CY N a (Ca N a) N 0 b
def Jj (N:Nat) (p0_w:AI) (a:Int):Option AI:=
 (some (BC (p0_w.hi-(BC ((Km p0_w.lo (IntKind.wrap .u64 a) 0).2))))).bind λb=>
 some (⟨b,((Km p0_w.lo (IntKind.wrap .u64 a) 0).1)⟩:AI)
def Dx (N:Nat) (b:Int) (a:Int) (c:(List Int)):Nat→Int→((List (AA×AI)))→Option (List (AA×AI))
 |0,_,_=>none
 |l+1,d,g=>
 cond (decide (d<(↑c.length:Int))) (
 (ix c d).bind λi=>
 (Jj N (⟨(BC (((MN (λk:AA=>Value.agg (AA.v k).toArray) g (⟨b,a,d⟩:AA)).getD (⟨0,0⟩:AI)).hi)),(IntKind.wrap .u64 (((MN (λk:AA=>Value.agg (AA.v k).toArray) g (⟨b,a,d⟩:AA)).getD (⟨0,0⟩:AI)).lo))⟩:AI) i).bind λj=>
 Dx N b a c l (BC (d+1)) (N1 (λk:AA=>Value.agg (AA.v k).toArray) g (⟨b,a,d⟩:AA) j)) (
 some g)
def DK (N:Nat) (d:(List (AA×AI))) (b:Int) (a:Int) (c:(List Int)):Option (List (AA×AI)):=
 Dx N b a c N 0 d
def CT (N:Nat) (a:AE) (c:((List (AA×AI)))→Option (List (AA×AI))):Nat→Int→((List (AA×AI)))→Option (List (AA×AI))
 |0,_,_=>none
 |j+1,b,d=>
 cond (decide (b<(↑a.E.length:Int))) (
 (ix a.E b).bind λg=>
 (DK N d 0 g.C g.K).bind λi=>
 CT N a c j (BC (b+1)) i) (
 c d)
def CV (N:Nat) (a:AE) (c:(List (AA×AI))):Option (List (AA×AI)):=
 (DK N c 1 (-1) a.N).bind λd=>
 (DK N d 2 (-1) a.L).bind λb=>
 some b
def CW (N:Nat) (a:AE) (b:(List (AA×AI))):Option (List (AA×AI)):=
 CT N a (CV N a) N 0 b
def CU (N:Nat) (a:AE) (c:((List (AA×AI)))→Option (List (AA×AI))):Nat→Int→((List (AA×AI)))→Option (List (AA×AI))
 |0,_,_=>none
 |j+1,b,d=>
 cond (decide (b<(↑a.D.length:Int))) (
 (ix a.D b).bind λg=>
 (DK N d 0 b g).bind λi=>
 CU N a c j (BC (b+1)) i) (
 c d)
def FZ (N:Nat) (b:(List (AA×AI))) (a:AE):Option (List (AA×AI)):=
 CU N a (CW N a) N 0 b
def Fq (N:Nat) (a:AJ) (b:(List (AA×AI))):Option (List (AA×AI)):=
 cond (decide (a.I=(-1))) (
 (DK N b 1 (-1) a.K).bind λc=>
 some c) (
 (EJ N b 0 a.I a.K).bind λd=>
 some d)
def H9 (N:Nat) (b:(List (AA×AI))) (a:AJ):Option (List (AA×AI)):=
 cond (decide (a.C=(-1))) (
 (DK N b 2 (-1) a.K).bind λc=>
 Fq N a c) (
 (DK N b 0 a.C a.K).bind λd=>
 Fq N a d)
def FK (N:Nat) (a:(List AJ)) (d:((List (AA×AI)))→Option Bool):Nat→Int→((List (AA×AI)))→Option Bool
 |0,_,_=>none
 |j+1,b,c=>
 cond (decide (b<(↑a.length:Int))) (
 (ix a b).bind λg=>
 (H9 N c g).bind λi=>
 FK N a d j (BC (b+1)) i) (
 d c)
def GT (N:Nat) (a:AA×AI):Option Bool:=
 cond (!(Wq (⟨(BC a.2.hi),(IntKind.wrap .u64 a.2.lo)⟩:AI).v (⟨0,0⟩:AI).v)) (
 some false) (
 none)
def J0 (N:Nat):Option Bool:=
 some true
def FM (N:Nat) (a:(List (AA×AI))):Option Bool:=
 cond (List.all a (λe=>(GT N e).isNone)) (J0 N) (some false)
def GU (N:Nat) (b:AE) (c:AE) (a:(List AJ)):Option Bool:=
 (Fa N ([]:(List (AA×AI))) c).bind λd=>
 (FZ N d b).bind λg=>
 FK N a (FM N) N 0 g
def FL (N:Nat) (b:AF) (a:(List AJ)) (d:Option Bool):Nat→Int→Option Bool
 |0,_=>none
 |j+1,c=>
 cond (decide (c<(↑a.length:Int))) (
 (ix a c).bind λg=>
 (Jl N b g).bind λi=>
 cond (!i) (
 some false) (
 FL N b a d j (BC (c+1)))) (
 d)
def Dq (N:Nat) (b:AF) (c:AE) (d:AE) (a:(List AJ)):Option Bool:=
 (IR N b c).bind λg=>
 (cond (!g) (some true) ((IR N b d).bind λi=>
 some (!i))).bind λj=>
 cond j (
 some false) (
 FL N b a (GU N c d a) N 0)
def Ed (N:Nat):Option Bool:=
 (J7 N).bind λd=>
 (N4 N d 5).bind λc=>
 (Jz N d c RZ).bind λa=>
 (QK N RY 0 2 6).bind λb=>
 (N5 N d ByteArray.empty).bind λj=>
 (NF N c).bind λk=>
 (N5 N d k).bind λg=>
 (N6 N d a.2.1 1).bind λi=>
 (F5 N d).bind λl=>
 cond (((((((!l)||(decide ((↑a.1.length:Int)≠1)))||(decide ((↑a.2.2.length:Int)≠1)))||(decide ((↑a.2.1.length:Int)≠3)))||j.2)||(!g.2))||(decide ((↑b.length:Int)≠4))) (
 some false) (
 (ix a.1 0).bind λaa=>
 (ix a.1 0).bind λm=>
 (cond (decide ((↑m.D.length:Int)≠3)) (some true) ((ix a.1 0).bind λab=>
 (ix a.1 0).bind λn=>
 (ix n.D 0).bind λo=>
 some (decide ((↑o.length:Int)≠1)))).bind λp=>
 (cond p (some true) ((ix a.1 0).bind λac=>
 (ix a.1 0).bind λq=>
 some (decide ((↑q.L.length:Int)≠1)))).bind λs=>
 cond s (
 some false) (
 (JE N g.1 c).bind λt=>
 (cond t ((LO N d c []).bind λu=>
 (JE N u c).bind λv=>
 some v) (some false)).bind λw=>
 (cond w ((ix a.1 0).bind λx=>
 (Dq N d c x a.2.1).bind λy=>
 some y) (some false)).bind λz=>
 (cond z ((ix a.1 0).bind λA=>
 (yV a.2.1 1).bind λB=>
 (Dq N d c A B).bind λC=>
 some (!C)) (some false)).bind λF=>
 (cond F ((ix a.1 0).bind λG=>
 (ix G.D 0).bind λH=>
 (ix H 0).bind λI=>
 some (decide (I=63))) (some false)).bind λJ=>
 (cond J ((ix a.1 0).bind λK=>
 (ix K.L 0).bind λM=>
 some (decide (M=15))) (some false)).bind λQ=>
 (cond Q ((ix b 1).bind λad=>
 (ix b 1).bind λU=>
 some (decide (U=15))) (some false)).bind λV=>
 (cond V ((ix b 3).bind λae=>
 (ix b 3).bind λW=>
 some (decide (W=7))) (some false)).bind λX=>
 (cond X (some (decide (i.1=7))) (some false)).bind λY=>
 (cond Y (some (decide (i.2=0))) (some false)).bind λZ=>
 some Z))
def Cb (N:Nat) (a:AF) (b:AE):Option Bool:=
 (F5 N a).bind λc=>
 (cond c ((Jy N a b).bind λd=>
 some d) (some false)).bind λg=>
 some g
def Cp (N:Nat) (a:(List Ck)) (d:Option Bool):Nat→Int→Option Bool
 |0,_=>none
 |g+1,c=>
 cond (decide (c<(↑a.length:Int))) (
 (ix a c).bind λb=>
 cond (((((decide (20<(↑b.Aa.length:Int)))||(decide (20<(↑b.Ai.length:Int))))||(decide (20<(↑b.Ak.length:Int))))||(decide (20<(↑b.Ab.length:Int))))||(decide (20<(↑b.Ae.length:Int)))) (
 some false) (
 Cp N a d g (BC (c+1)))) (
 d)
def Fe (N:Nat) (b:AF) (c:AE) (a:(List Ck)):Option Bool:=
 cond (((((decide (6<(↑b.A.length:Int)))||(decide (6<(↑b.G.length:Int))))||(decide (20<(↑c.E.length:Int))))||(decide (12<(↑a.length:Int))))||(decide (16777196<c.B))) (
 some false) (
 Cp N a (Cb N b c) N 0)
def C3 (N:Nat) (a:AE) (j:(List AM)→Option AE):Nat→(List AM)→Int→Option AE
 |0,_,_=>none
 |l+1,i,b=>
 cond (decide (b<(↑a.E.length:Int))) (
 (ix a.E b).bind λc=>
 (ix a.E b).bind λd=>
 (ix a.E b).bind λk=>
 (Ch N k.K).bind λg=>
 chk (Ih (i.length+([(⟨c.Z,d.C,([g]:List Int)⟩:AM)]:List AM).length) 40) <|
 C3 N a j l (i++([(⟨c.Z,d.C,([g]:List Int)⟩:AM)]:List AM)) (BC (b+1))) (
 j i)
def C5 (N:Nat) (a:AE) (d:List (List Int)) (g:List AM):Option AE:=
 (Ch N a.N).bind λb=>
 (Ch N a.L).bind λc=>
 some (⟨a.B,d,a.M,g,a.O,([b]:List Int),([c]:List Int)⟩:AE)
def C6 (N:Nat) (a:AE) (b:List (List Int)):Option AE:=
 C3 N a (C5 N a b) N ([]:List AM) 0
def C4 (N:Nat) (a:AE) (d:(List (List Int))→Option AE):Nat→(List (List Int))→Int→Option AE
 |0,_,_=>none
 |j+1,b,c=>
 cond (decide (c<(↑a.D.length:Int))) (
 (ix a.D c).bind λg=>
 (Ch N g).bind λi=>
 chk (Ih (b.length+1) 24) <|
 C4 N a d j (b++([([i]:List Int)]:List (List Int))) (BC (c+1))) (
 d b)
def Gc (N:Nat) (b:AF) (a:AE):Option AE:=
 C4 N a (C6 N a) N ([]:List (List Int)) 0
def CL (N:Nat) (c:(List AE)×(List AJ)×(List (List Int))) (g:(List AJ)→Option Bool):Nat→(List AJ)→Int→Option Bool
 |0,_,_=>none
 |k+1,b,a=>
 cond (decide (a<(↑c.2.1.length:Int))) (
 (ix c.2.1 a).bind λj=>
 (ix c.2.1 a).bind λd=>
 (Ch N d.K).bind λi=>
 chk (Ih (b.length+1) 56) <|
 CL N c g k (b++([({ d with K:=([i]:List Int)}:AJ)]:List AJ)) (BC (a+1))) (
 g b)
def CN (N:Nat) (b:AF) (g:AE) (a:Int) (l:Bool) (d:(List AE)×(List AJ)×(List (List Int))) (c:AE) (y:Int) (m:List AJ):Option Bool:=
 (Gc N b g).bind λn=>
 (Gc N b c).bind λo=>
 (Dq N ({ b with F:=([(ByteArray.mk #[97,108,108])]:List ByteArray)}:AF) n o m).bind λp=>
 cond (!p) (
 some false) (
 cond (decide ((↑c.D.length:Int)≠(↑b.A.length:Int))) (
 some false) (
 chk (Ih (([]:List (List Int)).length+c.D.length) 24) <|
 (ix c.D 0).bind λq=>
 (Ey N q ([1]:List Int)).bind λs=>
 (ix (([]:List (List Int))++c.D) 0).bind λz=>
 (ix (([]:List (List Int))++c.D) 0).bind λB=>
 (Dq N b g ({ c with D:=(upd (([]:List (List Int))++c.D) 0 s)}:AE) d.2.1).bind λt=>
 cond t (
 some false) (
 cond ((decide (a<0))||(decide ((↑d.2.1.length:Int)≤a))) (
 some l) (
 (ix d.2.1 a).bind λG=>
 (ix d.2.1 a).bind λi=>
 (mM d.2.1 a).bind λj=>
 (mN d.2.1 (BC (a+1))).bind λk=>
 chk (Ih (([]:List AJ).length+j.length) 56) <|
 chk (Ih ((([]:List AJ)++j).length+k.length) 56) <|
 (cond l ((Ch N i.K).bind λu=>
 (cond (((decide (u=0))||(decide (i.I=i.C)))||(decide (0<y))) (some true) ((Dq N b g c ((([]:List AJ)++j)++k)).bind λv=>
 some (!v))).bind λw=>
 some w) (some false)).bind λx=>
 some x))))
def CO (N:Nat) (a:AF) (b:AE) (c:Int) (l:Bool) (d:(List AE)×(List AJ)×(List (List Int))) (g:AE) (i:Int):Option Bool:=
 (cond (decide (i=0)) ((Dq N a b g d.2.1).bind λj=>
 some (!j)) (some false)).bind λk=>
 cond k (
 some false) (
 CL N d (CN N a b c l d g i) N ([]:List AJ) 0)
def CM (N:Nat) (a:(List Ck)) (c:Int→Option Bool):Nat→Int→Int→Option Bool
 |0,_,_=>none
 |i+1,d,b=>
 cond (decide (b<(↑a.length:Int))) (
 (ix a b).bind λg=>
 CM N a c i (BC (d+(↑g.Ae.length:Int))) (BC (b+1))) (
 c d)
def E5 (N:Nat) (b:AF) (c:AE) (a:(List Ck)) (d:Int):Option Bool:=
 (Ed N).bind λg=>
 (Fe N b c a).bind λi=>
 cond (!i) (
 some g) (
 (Jz N b c a).bind λj=>
 (LO N b c a).bind λk=>
 CM N a (CO N b c d g j k) N 0 0)
open Go.Proofs.Tryz
set_option maxRecDepth 10000
variable {N:Nat}{S:Nat→Prop}{L:List HP}{h:AV}
def pT (x:Value) (w:World):(callFunc 275 #[x]).run prog w= .ok (.value x) w:=wK func275 (by kernel_rfl) (by kernel_rfl) (by kernel_rfl) (by kernel_rfl) x w
def Wg {b:Nat}{p v:Value}(i:p= .pointer none∨p= .pointer (some ⟨b,0,none⟩)) (a:St S (Bx b 269 [p,v]::L) h):
  B3 prog 225 #[.pointer (some ⟨b,0,none⟩)] S h (λw S' h'=>w= .tuple #[]∧St S' (Bx b 269 [.pointer (some ⟨b,0,none⟩),v]::L) h'):=by
 refine BA (l:=[.pointer (some ⟨b,0,none⟩)]) 20 func225 rfl ntmps225 rfl λB=>?_;rcases i with rfl|rfl
 ·refine C9 ?_;refine JO (.inl rfl) ?_;refine LE rfl rfl ?_;refine Kl rfl rfl ?_;refine Im rfl Q3.1 rfl ?_;refine OE (vs:=[.pointer none]) LD a rfl mh rfl rfl Up.1 rfl rfl ?_;refine Y0 (o:=none) rfl rfl Sk TL rfl ?_;refine E7 (sb 6 rfl (sb 0 rfl Nx)) ?_;refine VQ rfl ?_;refine Bv ?_;refine LU 7 ?_;refine LE rfl rfl ?_;refine LE rfl rfl ?_;refine tK a mh rfl Sk aJ TL rfl rfl ?_;refine gE rfl rfl (pT _) rfl ?_;refine tY a mh rfl aJ Sk TL qA rfl ?_;refine Kl rfl rfl ?_;refine Im rfl Q3.1 rfl ?_;refine K5 ?_;refine Th (vs:=[.pointer (some ⟨b,0,none⟩)]) (cs':=[.pointer (some ⟨b,0,none⟩),v]) rfl rfl rfl (CG rfl NB) Up.1 rfl a .head rfl rfl λn c j=>?_;refine LF.nil Nx ?_;refine WF.nil (λk m d g=>?_);exact JA d rfl g I9 rfl j ⟨rfl,c⟩
 ·refine C9 ?_;refine JO (.inl rfl) ?_;refine LE rfl rfl ?_;refine Kl rfl rfl ?_;refine Im rfl Q3.1 rfl ?_;refine OE (vs:=[.pointer (some ⟨b,0,none⟩)]) LD a rfl mh rfl rfl Up.1 rfl rfl ?_;refine Y0 (o:=some ⟨b,0,none⟩) rfl rfl Sk TL rfl ?_;refine E7 (sb 6 rfl (sb 0 rfl Nx)) ?_;refine Tc rfl ?_;refine C9 ?_;refine JO (.inl rfl) ?_;refine LE rfl rfl ?_;refine Kl rfl rfl ?_;refine Im rfl Q3.1 rfl ?_;refine OE (vs:=[.pointer (some ⟨b,0,none⟩)]) LD a rfl mh rfl rfl Up.1 rfl rfl ?_;refine LE rfl rfl ?_;refine gL rfl rfl Sk TL rfl ?_;refine E7 (sb 19 rfl Nx) ?_;refine Tc rfl ?_;refine GG ?_;refine WF.nil (λk m d g=>?_);exact JA d rfl g I9 rfl (B9.refl S h) ⟨rfl,a⟩
def Ke {a:Nat}{b s:ByteArray}(o:St S (Vn a 269 5 b::L) h) (t:s.size≤maxLen) {r:ByteArray}(E:Pv N b s=some r):
  B3 prog 171 #[.pointer (some ⟨a,0,none⟩),.string s] S h (λv S' h'=>v= .tuple #[.int .i64 s.size,.nilIface]∧St S' (Vn a 269 5 r::L) h'):=by
 refine BA (l:=[.pointer (some ⟨a,0,none⟩),.string s]) 19 func171 rfl ntmps171 rfl λB=>?_;obtain⟨n,E⟩:=LQ E;have i:=mP n;obtain⟨p,v,w,x,j⟩:=o.bldO;refine C9 ?_;refine JO (.inl rfl) ?_;refine Mw rfl rfl ?_;refine Mw rfl rfl ?_;refine E7 (sb 1 rfl (sb 0 rfl Nx)) ?_;refine C9 ?_;refine Bv ?_;refine LU 1 ?_;refine LE rfl rfl ?_;refine K5 ?_;refine EQ rfl rfl rfl fI rfl (Wg w j) λu F G y q=>?_;obtain⟨rfl,d⟩:=q;refine LF.nil (sb 1 rfl (sb 0 rfl Nx)) ?_;refine C9 ?_;refine Bv ?_;refine LU 6 ?_;refine LE rfl rfl ?_;refine LE rfl rfl ?_;refine Kl rfl rfl ?_;refine Im rfl Lq.1 rfl ?_;refine OE (vs:=[v]) LD d rfl mh rfl rfl Oq.1 rfl rfl ?_;refine LE rfl rfl ?_;refine K5 ?_;refine mA (LL:=λg=>Bx a 269 [.pointer (some ⟨a,0,none⟩),v]::OS RB 5 g (bL b++bL s)::L) rfl rfl PD Mb (by rw[Mr];exact i) (by rw[Mr];exact MV n) rfl d (λ_=> .tail .head) λg H c z A=>?_;refine LU 2 ?_;refine Kl rfl rfl ?_;refine Im rfl Lq.1 rfl ?_;refine K5 ?_;refine Th (vs:=[g]) (cs':=[.pointer (some ⟨a,0,none⟩),g]) rfl rfl (c.oscell (.tail _ mh)) (CG (c.osone (.tail _ mh)) NB) Oq.1 rfl c .head rfl rfl λI k C=>?_;refine LF.nil (sb 1 rfl Nx) ?_;refine C9 ?_;refine JO (.inl rfl) ?_;refine LE rfl rfl ?_;refine MU rfl Mb rfl ?_;refine Mw rfl rfl ?_;refine Mw rfl rfl ?_;refine E7 (sb 5 rfl (sb 4 rfl Nx)) ?_;refine Bu (λJ K m D=>?_);cases E;exact JA m rfl D (G7 (IJ m (v:=_) rfl) (G7 (IJ m (v:=_) rfl) I9)) rfl (y.trans (z.trans C)) ⟨rfl,VS (.inr rfl) (xM x A) (by rw[tF];exact k)⟩
def fR {a:Nat}{b:ByteArray}{c:Int}(w:St S (Vn a 269 5 b::L) h) (g:IntKind.has .u8 c) {r:ByteArray}(E:tE N b c=some r):
  B3 prog 277 #[.pointer (some ⟨a,0,none⟩),.int .u8 c] S h (λv S' h'=>v= .nilIface∧St S' (Vn a 269 5 r::L) h'):=by
 refine BA (l:=[.pointer (some ⟨a,0,none⟩),.int .u8 c]) 17 func277 rfl ntmps277 rfl λB=>?_;obtain⟨t,E⟩:=LQ E;have k:=mP t;obtain⟨p,v,y,I,m⟩:=w.bldO;refine C9 ?_;refine JO (.inl rfl) ?_;refine Mw rfl rfl ?_;refine E7 (sb 1 rfl (sb 0 rfl Nx)) ?_;refine C9 ?_;refine Bv ?_;refine LU 1 ?_;refine LE rfl rfl ?_;refine K5 ?_;refine EQ rfl rfl rfl fI rfl (Wg y m) λu J K z q=>?_;obtain⟨rfl,i⟩:=q;refine LF.nil (sb 1 rfl (sb 0 rfl Nx)) ?_;refine C9 ?_;refine Bv ?_;refine LU 6 ?_;refine LE rfl rfl ?_;refine LE rfl rfl ?_;refine Kl rfl rfl ?_;refine Im rfl Lq.1 rfl ?_;refine OE (vs:=[v]) LD i rfl mh rfl rfl Oq.1 rfl rfl ?_;refine LE rfl rfl ?_;refine K5 ?_;refine nT (pv:=[(0,.int .u8 c)]) (cs:=[.int .u8 c]) PD rfl rfl rfl rfl (by simp) rfl i λA M n C=>?_;refine Y9 (r:=RB) (l:=bL b) (xs:=[c]) (LL:=λj=>Bx A 5 [.int .u8 c]::Bx a 269 [.pointer (some ⟨a,0,none⟩),v]::OS RB 5 j (bL b++[c])::L) rfl rfl PD rfl mh ⟨_,_,rfl,⟨rfl,g⟩,rfl⟩ rfl (by rw[Mr];exact k) (by rw[Mr];exact MV t) rfl n (λ_=> .tail (.tail .head)) λj Q o D=>?_;have d:=o.drop .head;refine LU 2 ?_;refine Kl rfl rfl ?_;refine Im rfl Lq.1 rfl ?_;refine K5 ?_;refine Th (vs:=[j]) (cs':=[.pointer (some ⟨a,0,none⟩),j]) rfl rfl (d.oscell (.tail _ mh)) (CG (d.osone (.tail _ mh)) NB) Oq.1 rfl d .head rfl rfl λU s F=>?_;refine LF.nil Nx ?_;refine C9 ?_;refine JO (.inl rfl) ?_;refine Mw rfl rfl ?_;refine E7 (sb 4 rfl Nx) ?_;refine Bu (λV W G H=>?_);cases E;exact UE G H rfl rfl (z.trans (C.trans (D.trans F))) ⟨rfl,VS (.inr rfl) (λx=>absurd x (by rw[ByteArray.size_push];omega)) (by rw[kM _ _ g];exact s)⟩
def Yb {d:Nat}{b:ByteArray}(m:St S (Vn d 269 5 b::L) h) {r:ByteArray}(E:tD N b=some r):
  B3 prog 174 #[.pointer (some ⟨d,0,none⟩)] S h (λv S' h'=>v= .string r∧r.size≤maxLen∧St S' L h'):=by
 refine BA (l:=[.pointer (some ⟨d,0,none⟩)]) 14 func174 rfl ntmps174 rfl λB=>?_;cases E;obtain⟨p,v,z,n,c⟩:=m.bldO;have j:b.size≤maxLen:=by obtain⟨A,cap,_,q⟩:=c.oslen (.tail _ mh);rwa [Mr] at q
 refine C9 ?_;refine JO (.inl rfl) ?_;refine Mw rfl rfl ?_;refine E7 (sb 0 rfl Nx) ?_;refine C9 ?_;by_cases h0:b.size=0
 ·obtain rfl:=n h0;have o:b=ByteArray.empty:=ByteArray.ext (Array.eq_empty_of_size_eq_zero h0);subst o;refine Yi (λw=>w.heap[d]? =some (.cells ([p,.slice none 0 0]:List Value).toArray 269 (0,0))) mo ?_;refine PY 0 rfl (by kernel_rfl) (λw a=>c.bxW mh a) rfl rfl ?_;refine ZA 1 rfl (by kernel_rfl) (λw a=>c.bxW mh a) rfl rfl ?_;refine Qa 2 rfl (by kernel_rfl) (λw a=>c.bxW mh a) rfl Lq.1 rfl ?_;refine OH 3 (vs:=[.slice none 0 0]) rfl (by kernel_rfl) (λw a=>c.bxW mh a) rfl (λw a=>a) rfl rfl Oq.1 rfl rfl ?_;refine iC 4 rfl (by kernel_rfl) (λw a=>c.bxW mh a) rfl (λx=>by cases x) rfl ?_;refine PY 5 rfl (by kernel_rfl) (λw a=>c.bxW mh a) rfl rfl ?_;refine ZA 6 rfl (by kernel_rfl) (λw a=>c.bxW mh a) rfl rfl ?_;refine Qa 7 rfl (by kernel_rfl) (λw a=>c.bxW mh a) rfl Lq.1 rfl ?_;refine OH 8 (vs:=[.slice none 0 0]) rfl (by kernel_rfl) (λw a=>c.bxW mh a) rfl (λw a=>a) rfl rfl Oq.1 rfl rfl ?_;refine ZC 9 rfl (by kernel_rfl) (λw a=>c.bxW mh a) rfl RM.1 rfl ?_;refine Zt 10 rfl rfl (by kernel_rfl) ?_;refine gZ rfl rfl rfl ?_;refine Ui (λw a=>c.bxW mh a) ?_;refine Vd 11 rfl (by kernel_rfl) (λw a=>c.bxW mh a) rfl rfl ?_;refine Sd (by kernel_rfl) (sb 2 rfl Nx) ?_;refine Bu (λs t k a=>?_);exact UE k a rfl rfl (B9.refl S h) ⟨rfl,j,(c.drop .head).drop .head⟩
 ·obtain⟨g,cap,rfl,u⟩:=c.osrow (.tail _ mh) (by rw[Mr];exact h0);rw[Mr] at c u;refine Yi (λw=>w.heap[d]? =some (.cells ([p,.slice (some ⟨g,0,none⟩) b.size cap]:List Value).toArray 269 (0,0))) mo ?_;refine PY 0 rfl (by kernel_rfl) (λw a=>c.bxW mh a) rfl rfl ?_;refine ZA 1 rfl (by kernel_rfl) (λw a=>c.bxW mh a) rfl rfl ?_;refine Qa 2 rfl (by kernel_rfl) (λw a=>c.bxW mh a) rfl Lq.1 rfl ?_;refine OH 3 (vs:=[.slice (some ⟨g,0,none⟩) b.size cap]) rfl (by kernel_rfl) (λw a=>c.bxW mh a) rfl (λw a=>a) rfl rfl Oq.1 rfl rfl ?_;refine iC 4 rfl (by kernel_rfl) (λw a=>c.bxW mh a) rfl (λ_=>by omega) rfl ?_;refine PY 5 rfl (by kernel_rfl) (λw a=>c.bxW mh a) rfl rfl ?_;refine ZA 6 rfl (by kernel_rfl) (λw a=>c.bxW mh a) rfl rfl ?_;refine Qa 7 rfl (by kernel_rfl) (λw a=>c.bxW mh a) rfl Lq.1 rfl ?_;refine OH 8 (vs:=[.slice (some ⟨g,0,none⟩) b.size cap]) rfl (by kernel_rfl) (λw a=>c.bxW mh a) rfl (λw a=>a) rfl rfl Oq.1 rfl rfl ?_;refine ZC 9 rfl (by kernel_rfl) (λw a=>c.bxW mh a) rfl RM.1 rfl ?_;refine Zt 10 rfl rfl (by kernel_rfl) ?_;refine lW (L:=Bx d 269 [p,.slice (some ⟨g,0,none⟩) b.size cap]::L) rfl rfl (c.pick (.tail .head)) h0 oJ zL rfl λC i y=>?_;refine Ui (λw a=>i.bxW mh a) ?_;refine Vd 11 rfl (by kernel_rfl) (λw a=>i.bxW mh a) rfl rfl ?_;refine Sd (by kernel_rfl) (sb 2 rfl Nx) ?_;refine Bu (λs t k a=>?_);exact UE k a rfl rfl y ⟨rfl,j,i.drop .head⟩
def ZH (d:St S L h) {s:ByteArray}(a:s.size≤maxLen) {r:AW}(E:mE N s=some r):
  B3 prog 170 #[.string s] S h (λv S' h'=>∃b:Nat,v= .pointer (some ⟨b,0,none⟩)∧r.rest_.size≤maxLen∧St S' (Bx b 315 [.string r.rest_,.bool r.bad]::L) h'):=by
 refine BA (l:=[.string s]) 6 func170 rfl ntmps170 rfl λB=>?_;cases E;refine C9 ?_;refine JO (.inl rfl) ?_;refine Mw rfl rfl ?_;refine E7 (sb 0 rfl Nx) ?_;refine C9 ?_;refine Bv ?_;refine LU 2 ?_;refine LE rfl rfl ?_;refine FY (cs:=[.string s,.bool false]) oV rfl rfl rfl ?_;refine K5 ?_;refine OG rfl rfl rfl d λb k c g=>?_;refine LU 1 ?_;refine Mw rfl rfl ?_;refine K5 ?_;refine LF.nil (sb 2 rfl Nx) ?_;refine Bu (λm n i j=>?_);exact UE i j rfl rfl g ⟨b,rfl,a,c⟩
open Go.RowKit Go.Shelf
def iV:Ren:={ f:=λx=>match x with|6=>291|10=>305|11=>306|12=>307|13=>281|14=>308|24=>301|25=>302|26=>323|27=>324|28=>325|29=>326|30=>327|31=>328|32=>329|33=>330|34=>332|35=>333|36=>334|37=>335|38=>336|39=>337|n=>n,t:=λx=>match x with|20=>20|26=>233|35=>378|0=>0|37=>336|3=>3|41=>186|44=>383|49=>374|51=>176|4=>4|54=>395|53=>394|58=>93|5=>5|9=>9|60=>402|64=>388|66=>405|67=>96|17=>17|32=>348|33=>376|82=>419|12=>12|75=>413|76=>414|77=>415|78=>318|79=>416|80=>417|n=>n,g:=λx=>have n:=x;n}
def Aac:LaysGg.n6 prog iV:={ mixed:=by kernel_rfl,f6:=func291,f10:=func305,f11:=func306,f12:=func307,f13:=func281,f14:=func308,f24:=func301,f25:=func302,f26:=func323,f27:=func324,f28:=func325,f29:=func326,f30:=func327,f31:=func328,f32:=func329,f33:=func330,f34:=func332,f35:=func333,f36:=func334,f37:=func335,f38:=func336,f39:=func337,t0:=underlying0,a0:=Tryz.isAgg0,z0:=Tryz.sizeOf0,v0:=Tryz.zeroValue0,i0:=by kernel_rfl,t3:=underlying3,a3:=Tryz.isAgg3,z3:=Tryz.sizeOf3,v3:=Tryz.zeroValue3,i3:=by kernel_rfl,t4:=underlying4,a4:=Tryz.isAgg4,z4:=Tryz.sizeOf4,v4:=Tryz.zeroValue4,i4:=by kernel_rfl,t5:=underlying5,a5:=Tryz.isAgg5,z5:=Tryz.sizeOf5,v5:=Tryz.zeroValue5,i5:=by kernel_rfl,t9:=underlying9,a9:=Tryz.isAgg9,z9:=Tryz.sizeOf9,v9:=Tryz.zeroValue9,i9:=by kernel_rfl,t12:=underlying12,a12:=Tryz.isAgg12,z12:=Tryz.sizeOf12,v12:=Tryz.zeroValue12,i12:=by kernel_rfl,t17:=underlying17,a17:=Tryz.isAgg17,z17:=Tryz.sizeOf17,v17:=Tryz.zeroValue17,i17:=by kernel_rfl,t20:=underlying20,a20:=Tryz.isAgg20,z20:=Tryz.sizeOf20,v20:=Tryz.zeroValue20,i20:=by kernel_rfl,t26:=underlying233,a26:=Tryz.isAgg233,z26:=Tryz.sizeOf233,v26:=Tryz.zeroValue233,i26:=by kernel_rfl,t32:=underlying348,a32:=Tryz.isAgg348,z32:=Tryz.sizeOf348,v32:=Tryz.zeroValue348,i32:=by kernel_rfl,t33:=underlying376,a33:=Tryz.isAgg376,z33:=Tryz.sizeOf376,v33:=Tryz.zeroValue376,i33:=by kernel_rfl,t35:=underlying378,a35:=Tryz.isAgg378,z35:=Tryz.sizeOf378,v35:=Tryz.zeroValue378,i35:=by kernel_rfl,t37:=underlying336,a37:=Tryz.isAgg336,z37:=Tryz.sizeOf336,v37:=Tryz.zeroValue336,i37:=by kernel_rfl,t41:=underlying186,a41:=Tryz.isAgg186,z41:=Tryz.sizeOf186,v41:=Tryz.zeroValue186,i41:=by kernel_rfl,t44:=underlying383,a44:=Tryz.isAgg383,z44:=Tryz.sizeOf383,v44:=Tryz.zeroValue383,i44:=by kernel_rfl,t49:=underlying374,a49:=Tryz.isAgg374,z49:=Tryz.sizeOf374,v49:=Tryz.zeroValue374,i49:=by kernel_rfl,t51:=underlying176,a51:=Tryz.isAgg176,z51:=Tryz.sizeOf176,v51:=Tryz.zeroValue176,i51:=by kernel_rfl,t53:=underlying394,a53:=Tryz.isAgg394,z53:=Tryz.sizeOf394,v53:=Tryz.zeroValue394,i53:=by kernel_rfl,t54:=underlying395,a54:=Tryz.isAgg395,z54:=Tryz.sizeOf395,v54:=Tryz.zeroValue395,i54:=by kernel_rfl,t58:=underlying93,a58:=Tryz.isAgg93,z58:=Tryz.sizeOf93,v58:=Tryz.zeroValue93,i58:=by kernel_rfl,t60:=underlying402,a60:=Tryz.isAgg402,z60:=Tryz.sizeOf402,v60:=Tryz.zeroValue402,i60:=by kernel_rfl,t64:=underlying388,a64:=Tryz.isAgg388,z64:=Tryz.sizeOf388,v64:=Tryz.zeroValue388,i64:=by kernel_rfl,t66:=underlying405,a66:=Tryz.isAgg405,z66:=Tryz.sizeOf405,v66:=Tryz.zeroValue405,i66:=by kernel_rfl,t67:=underlying96,a67:=Tryz.isAgg96,z67:=Tryz.sizeOf96,v67:=Tryz.zeroValue96,i67:=by kernel_rfl,t75:=underlying413,a75:=Tryz.isAgg413,z75:=Tryz.sizeOf413,v75:=Tryz.zeroValue413,i75:=by kernel_rfl,t76:=underlying414,a76:=Tryz.isAgg414,z76:=Tryz.sizeOf414,v76:=Tryz.zeroValue414,i76:=by kernel_rfl,t77:=underlying415,a77:=Tryz.isAgg415,z77:=Tryz.sizeOf415,v77:=Tryz.zeroValue415,i77:=by kernel_rfl,t78:=underlying318,a78:=Tryz.isAgg318,z78:=Tryz.sizeOf318,v78:=Tryz.zeroValue318,i78:=by kernel_rfl,t79:=underlying416,a79:=Tryz.isAgg416,z79:=Tryz.sizeOf416,v79:=Tryz.zeroValue416,i79:=by kernel_rfl,t80:=underlying417,a80:=Tryz.isAgg417,z80:=Tryz.sizeOf417,v80:=Tryz.zeroValue417,i80:=by kernel_rfl,t82:=underlying419,a82:=Tryz.isAgg419,z82:=Tryz.sizeOf419,v82:=Tryz.zeroValue419,i82:=by kernel_rfl}
open Go.Shelf Go.RowKit Go.Lib Go.Sort
set_option maxHeartbeats 2000000 in
def XO (l m g off c b n o u a:Nat) (W:World) (G:Nat→Nat) (R:Nat→Int) (z:W.cell? ⟨l,0,none⟩=some (.slice (some ⟨g,off,none⟩) b c)) (A:W.cell? ⟨m,0,none⟩=some (.slice (some ⟨n,o,none⟩) a u))
  (p:∀t,t<b→W.cell? ⟨g,off+t,none⟩=some (.int .i64 (G t:Int))) (s:∀t,t<a→W.cell? ⟨n,o+t,none⟩=some (.int .i64 (R t))) (i j:Nat) (v:i<b) (w:j<b) (x:G i<a) (y:G j<a):
  Calls Tryz.prog 292 #[.int .i64 i,.int .i64 j,.pointer (some ⟨l,0,none⟩),.pointer (some ⟨m,0,none⟩)] W λe w'=>e= .returned (.bool (cond (!decide (R (G i)=R (G j))) (decide (R (G j)<R (G i))) (decide (G i<G j))))∧∃q,w'=W.drewN q:=by
 have B:=p i v;have C:=p j w;have D:=s _ x;have F:=s _ y;go_enter Tryz.func292,Tryz.ntmps292
 go_wp2
 go_quiet (fail)
 go_wp2
 go_quiet (fail)
 go_wp2
 ·go_quiet (fail)
  go_wp2
  go_ret
  rename_i d;have k:decide (R (G i)=R (G j))=false:=by simpa using d
  refine⟨by rw[k];rfl,_,by(try simp only[World.drewN_drewN]);rfl⟩
 ·go_ret
  rename_i d;have k:decide (R (G i)=R (G j))=true:=by simpa using d
  refine⟨by rw[k];rfl,_,by(try simp only[World.drewN_drewN]);rfl⟩
def bY (R:Nat→Int) {n:Nat}:SWO (λa b:Fin n=>SG R a b) where
 irrefl x:=by simp [SG]
 trans x y z h1 h2:=by
  simp only[SG] at*;by_cases c:R x=R y<;>by_cases d:R y=R z<;>by_cases g:R x=R z<;>simp_all<;>omega
 ntrans x y z h1 h2:=by
  simp only[SG] at*;by_cases c:R x=R y<;>by_cases d:R y=R z<;>by_cases g:R x=R z<;>simp_all<;>omega
def ZO (R:Nat→Int) (a b:Nat) (d:SG R a b=false) (g:SG R b a=false):a=b:=by
 simp only[SG] at*;by_cases c:R a=R b
 ·simp_all;omega
 ·have i:¬R b=R a:=λj=>c j.symm;simp_all;omega
def V6 (p q g off c n s v z:Nat) [NeZero n] (W:World) (R:Nat→Int) (C:W.cell? ⟨p,0,none⟩=some (.slice (some ⟨g,off,none⟩) n c)) (D:W.cell? ⟨q,0,none⟩=some (.slice (some ⟨s,v,none⟩) n z))
  (d:Array (Fin n)) (hd:d.size=n) (F:Holds (λk:Fin n=>Value.int .i64 (k.val:Int)) W g off d) (G:∀t,t<n→W.cell? ⟨s,v+t,none⟩=some (.int .i64 (R t))) (A:g<W.heap.size) (H:p<W.heap.size) (I:q<W.heap.size) (J:s<W.heap.size) (K:p≠g) (M:q≠g) (Q:s≠g):
  LessReads Tryz.prog 292 #[.pointer (some ⟨p,0,none⟩),.pointer (some ⟨q,0,none⟩)] (λk:Fin n=>Value.int .i64 (k.val:Int)) (λa b:Fin n=>SG R a b) g off n W:=by
 intro m u o U i j V X;have e:sortWorld (λk:Fin n=>Value.int .i64 (k.val:Int)) W g off m o u=putRow (λk:Fin n=>Value.int .i64 (k.val:Int)) (grow (Sort.ahead W m) u) g off o:=by
  unfold sortWorld;rw[putRow_grow _ (Sort.ahead W m) _ g off _ A]
 have w:Holds (λk:Fin n=>Value.int .i64 (k.val:Int)) (grow (Sort.ahead W m) u) g off d:=holds_grow _ _ _ g off d A (holds_ahead _ _ _ _ _ _ F);have l:∀a:Addr,a.block≠g→a.block<W.heap.size→(sortWorld (λk:Fin n=>Value.int .i64 (k.val:Int)) W g off m o u).cell? a=W.cell? a:=λa x y=>by
  rw[e,cell?_putRow_other _ _ g off o _ (Or.inl x),cell?_grow (Sort.ahead W m) _ _ y];rfl
 refine XO p q g off c n s v z n _ (λt=>(o[t]!).val) R ((l _ K H).trans C) ((l _ M I).trans D) (λt B=>?_) (λt B=>(l _ Q J).trans (G t B)) i j V X (o[i]!).isLt (o[j]!).isLt;rw[e];exact cell?_putRow _ _ g off d o w (U.trans hd.symm) t (by omega)
noncomputable def Aad:TypeInfo:=(Tryz.prog.info? 29).get (by kernel_rfl)
noncomputable def mO:TypeInfo:=(Tryz.prog.info? 3).get (by kernel_rfl)
def siK (n:Nat) (g:2≤n):Lib.swapperK n mO 2=5:=by
 have a:mO.hasPointers=false:=by kernel_rfl
 have b:mO.bytes=8:=by kernel_rfl
 have c:(n==0)=false:=by simp;omega
 have d:(n==1)=false:=by simp;omega
 simp [Lib.swapperK,a,b,c,d]
def V5 (i j g off c n l o u:Nat) [NeZero n] (W:World) (R:Nat→Int) (x:W.cell? ⟨i,0,none⟩=some (.slice (some ⟨g,off,none⟩) n c)) (y:W.cell? ⟨j,0,none⟩=some (.slice (some ⟨l,o,none⟩) n u))
  (d:Array (Fin n)) (hd:d.size=n) (K:2≤n) (z:n<4611686018427387904) (v:Holds (λk:Fin n=>Value.int .i64 (k.val:Int)) W g off d) (A:∀t,t<n→W.cell? ⟨l,o+t,none⟩=some (.int .i64 (R t))) (w:g<W.heap.size) (B:i<W.heap.size) (C:j<W.heap.size) (D:l<W.heap.size) (F:i≠g) (G:j≠g) (H:l≠g):
  Calls Tryz.prog 291 #[.iface 29 (.slice (some ⟨g,off,none⟩) n c),.func (.func 292) #[] #[.pointer (some ⟨i,0,none⟩),.pointer (some ⟨j,0,none⟩)]] W λe w'=>
   e= .returned (.tuple #[])∧∃p q I,PermIn 0 d.size d p∧SortedIn (λa b:Fin n=>SG R a b) 0 d.size p∧w'=grow (putRow (λk:Fin n=>Value.int .i64 (k.val:Int)) (Sort.ahead W q) g off p) I:=by
 have J:=V6 i j g off c n l o u W R x y d hd v A w B C D F G H;have s:=Any.sort_Slice_sorted Aac 29 3 Aad mO (by kernel_rfl) (by kernel_rfl) (by kernel_rfl) (by kernel_rfl) 2 (λ_=>by kernel_rfl) (by kernel_rfl) (λ_=>by kernel_rfl) (λk:Fin n=>Value.int .i64 (k.val:Int)) (λ_=>rfl) (λa b:Fin n=>SG R a b) (bY R) 292 _
  (enters_of Tryz.func292 (by kernel_rfl) rfl) g off c d (by omega) (by omega) 318 (by rw[siK _ (by omega)];kernel_rfl) true
  (λm W=>run_callFunc_extern Tryz.func318 (by kernel_rfl) (by kernel_rfl) (by kernel_rfl) (e:=Extern.ReflectliteSwapper.swap true) (by kernel_rfl) m W) W (by rw[hd];exact J) v w
 rw[hd] at s;change Calls Tryz.prog 291 _ _ _ at s;rw[hd];exact s
def Us {j:Type}[Inhabited j] (enc:j→Value) (W:World) (q g b:Nat) (d:Array j) (a:Array Obj) (c:b<W.heap.size) (i:b≠g):(grow (putRow enc (Sort.ahead W q) g 0 d) a).heap[b]? =W.heap[b]? :=by
 show((W.heap.modify g _)++a)[b]? =_
 rw[Aeq (by simpa using c),Array.getElem?_modify];simp [Ne.symm i]
def Ut {i:Type}[Inhabited i] (enc:i→Value) (W:World) (q g:Nat) (d:Array i) (b:Array Obj) {cur:Array Value}{T:TypeId}{fr:Nat×Nat}(c:W.heap[g]? =some (.cells cur T fr)):(grow (putRow enc (Sort.ahead W q) g 0 d) b).heap[g]? =some (.cells (putCells enc 0 d cur) T fr):=by
 have a:g<W.heap.size:=(Ab5.1 c).1;show((W.heap.modify g _)++b)[g]? =_
 rw[Aeq (by simpa using a),Array.getElem?_modify];simp [c,onCells]
def Sv {b:Type}[Inhabited b] (enc:b→Value) (W:World) (q g:Nat) (d:Array b) (a:Array Obj):W.heap.size≤(grow (putRow enc (Sort.ahead W q) g 0 d) a).heap.size:=by
 show W.heap.size≤((W.heap.modify g _)++a).size
 simp
def R4 {lt:Int→Int→Bool}(g:∀x,lt x x=false) (i:∀x y z,lt x y=true→lt y z=true→lt x z=true) (j:∀x y z,lt x y=false→lt y z=false→lt x z=false) (x:Int):∀l:List Int,l.Pairwise (λa b=>lt b a=false)→(Tx lt x l).Pairwise λa b=>lt b a=false
 |[],_=>by simp [Tx]
 |y::l,o=>by
  have k:∀z,z∈l→lt z y=false:=λz c=>List.rel_of_pairwise_cons o c;have m:=o.of_cons;unfold Tx;cases d:lt y x with
  |true=>
   refine List.Pairwise.cons (λz c=>?_) (R4 g i j x l m);rcases Aa5.1 ((Ph lt x l).mem_iff.1 c) with rfl|c
   ·cases n:lt z y with
    |false=>rfl
    |true=>have:=i _ _ _ d n;rw[g] at this;cases this
   ·exact k z c
  |false=>
   refine List.Pairwise.cons (λz c=>?_) o;rcases Aa5.1 c with rfl|c
   ·exact d
   ·exact j _ _ _ (k z c) d
def Qw {lt:Int→Int→Bool}(c:∀x,lt x x=false) (d:∀x y z,lt x y=true→lt y z=true→lt x z=true) (g:∀x y z,lt x y=false→lt y z=false→lt x z=false):∀l:List Int,(Ng lt l).Pairwise λa b=>lt b a=false
 |[]=> .nil
 |x::l=>R4 c d g x _ (Qw c d g l)
def XB (a:List Int) (x:Int):Rv a x x=false:=by simp [Rv,SG]
def wY (a b c:Int) (x y z:Nat) (d:cond (!decide (a=b)) (decide (b<a)) (decide (x<y))=true) (g:cond (!decide (b=c)) (decide (c<b)) (decide (y<z))=true):cond (!decide (a=c)) (decide (c<a)) (decide (x<z))=true:=by
 by_cases i:a=b<;>by_cases j:b=c<;>by_cases k:a=c<;>simp_all<;>omega
def wZ (a b c:Int) (x y z:Nat) (d:cond (!decide (a=b)) (decide (b<a)) (decide (x<y))=false) (g:cond (!decide (b=c)) (decide (c<b)) (decide (y<z))=false):cond (!decide (a=c)) (decide (c<a)) (decide (x<z))=false:=by
 by_cases i:a=b<;>by_cases j:b=c<;>by_cases k:a=c<;>simp_all<;>omega
def ZP (a:List Int) (x y z:Int) (b:Rv a x y=true) (c:Rv a y z=true):Rv a x z=true:=wY _ _ _ _ _ _ b c
def XA (a:List Int) (x y z:Int) (b:Rv a x y=false) (c:Rv a y z=false):Rv a x z=false:=wZ _ _ _ _ _ _ b c
def VB (c:List Int) {l d:List Int}(h0:∀x,x∈l→0≤x) (g:d.Perm l) (i:d.Pairwise λa b=>Rv c b a=false):d=Ng (Rv c) l:=by
 refine List.Perm.eq_of_pairwise (le:=λx y=>Rv c y x=false) (λa b j k m n=>?_) i (Qw (XB c) (ZP c) (XA c) l) (g.trans (Mj _ l).symm);have e:=ZO _ _ _ n m;have o:=h0 a (g.mem_iff.1 j);have p:=h0 b ((Mj _ l).mem_iff.1 k);omega
def U0 {S:Nat→Prop}{o:AV}:∀{l:List Int}{cs:List Value},LS S o AC cs l→cs=l.map (Value.int .i64)∧∀x,x∈l→AB x
 |[],cs,k=>⟨k,λx d=>by cases d⟩
 |x::l,cs,⟨g,n,e,c,i⟩=>by
  have a:g=[.int .i64 x]:=c.1;obtain⟨j,m⟩:=U0 i;subst e;subst a;subst j;exact⟨rfl,λy b=>by
   rcases Aa5.1 b with rfl|b
   ·exact c.2
   ·exact m y b⟩
def WG {S:Nat→Prop}{b:AV}:∀{l:List Int},(∀x,x∈l→AB x)→LS S b AC (l.map (Value.int .i64)) l
 |[],_=>rfl
 |x::l,k=>⟨[.int .i64 x],_,rfl,⟨rfl,k x (Abn ..)⟩,WG λy a=>k y (Abt _ a)⟩
def yW:Lib.swapperK 1 mO 2=2:=by
 have a:mO.hasPointers=false:=by kernel_rfl
 have b:mO.bytes=8:=by kernel_rfl
 simp [Lib.swapperK,a,b]
def Tt {n:Nat}[NeZero n] (enc:Fin n→Value) (d:Array (Fin n)) (cur:Array Value) (b:d.size≤cur.size):(putCells enc 0 d cur).toList.take d.size=d.toList.map enc:=by
 apply Acc;intro i;rw[Ada];by_cases a:i<d.size
 ·rw[Aay a,Array.getElem?_toList];have c:i<cur.size:=by omega
  simp [putCells,a,c,getElem!_pos]
 ·rw[Aaw a,Abv (by simpa using a)]
def W9 {S:Nat→Prop}{L:List HP}{h:AV}{A s:Nat}{v Y:Value}{c p G:List Int}(Z:St S (Bx A 29 [v]::OS AC 3 v c::Bx s 29 [Y]::OS AC 3 Y p::L) h) (E:Sx c p=some G):
  B3 Tryz.prog 291 #[.iface 29 v,.func (.func 292) #[] #[.pointer (some ⟨A,0,none⟩),.pointer (some ⟨s,0,none⟩)]] S h (λr S' h'=>r= .tuple #[]∧St S' (Bx A 29 [v]::OS AC 3 v G::Bx s 29 [Y]::OS AC 3 Y p::L) h'):=by
 unfold Sx at E;split at E
 ·rename_i hc;obtain⟨hl,D,am,H⟩:=hc;cases E;intro B W m;have u:∀x,x∈c→0≤x∧x<c.length:=λx I=>by simpa using Aa6.1 H x I
  obtain⟨F1,k1,s1,F2,k2,s2,F3,k3,s3,F4,k4,s4,_⟩:=Z.2;rcases k2 with ⟨_,e0,_⟩|⟨g,cap,cur,e1,e2,e3,e4,e5,e6,e7⟩
  ·rw[e0] at D;cases D
  rcases k4 with ⟨_,e0,_⟩|⟨rb,rcap,rcur,f1,f2,f3,f4,f5,f6,f7⟩
  ·rw[hl,e0] at D;cases D
  subst e1;subst f1;have hn:NeZero c.length:=⟨by omega⟩
  obtain⟨r1,r2⟩:=U0 e7;obtain⟨q1,q2⟩:=U0 f7;have r1:cur.toList.take c.length=c.map (Value.int .i64):=by rw[←r1];congr 1;exact(Acr _).symm
  have q1:rcur.toList.take p.length=p.map (Value.int .i64):=by rw[←q1];congr 1;exact(Acr _).symm
  have e6:cur.size=cap:=by rw[e6];exact Acr _
  have n:∀(b:Nat) (cs:Array Value) (T:TypeId) (t:Nat),h[b]? =some (.cells cs T (0,0))→W.cell? ⟨b,t,none⟩=cs[t]? :=λb cs T t z=>by
   rw[I7,m.heap];simp [IZ,z]
  have n1:A≠g:=λe=>(s2 g ((e2 g).2 rfl)).2 (by rw[k1.1 g];exact e.symm);have n2:s≠g:=λe=>(s3 s ((k3.1 s).2 rfl)).2 ((e2 s).2 e);have n3:rb≠g:=λe=>(s4 rb ((f2 rb).2 rfl)).1.2 ((e2 rb).2 e);have lt:∀(b:Nat) o,h[b]? =some o→b<W.heap.size:=λb o z=>by rw[m.heap];exact(Ab5.1 z).1
  have J:∀t (w:t<c.length),cur[t]? =some (.int .i64 c[t]):=λt w=>by
   have:(cur.toList.take c.length)[t]? =some (.int .i64 c[t]):=by rw[r1];simp [w]
   rw[Aci w] at this;simpa using this
  have aa:∀t,t<c.length→rcur[t]? =some (.int .i64 (p.getD t 0)):=λt w=>by
   have y:t<p.length:=by omega
   have:(rcur.toList.take p.length)[t]? =some (.int .i64 (p.getD t 0)):=by rw[q1];simp [y,Abg]
   rw[Aci y] at this;simpa using this
  by_cases ab:2≤c.length
  ·have hd:=λ(i:Fin c.length)=>(u c[i] (Abc _))
   obtain⟨d,ds,K⟩:∃d:Array (Fin c.length),d.size=c.length∧d.toList.map (λk=>(k.val:Int))=c:=by
    refine⟨Array.ofFn λi:Fin c.length=>(⟨(c[i]).toNat,by have:=hd i;omega⟩:Fin c.length),by simp,?_⟩;apply Acc;intro i;by_cases hi:i<c.length
    ·have h9:=(u c[i] (Abc _)).1;simp [hi];omega
    ·rw[Abv (by simpa using hi),Abv (by omega)]
   have ac:∀t (w:t<c.length),((d[t]!).val:Int)=c[t]:=λt w=>by
    have a:(d.toList.map (λk=>(k.val:Int)))[t]? =some c[t]:=by rw[K];simp [w]
    have y:t<d.size:=by omega
    rw[getElem!_pos d t y];simpa [y] using a
   refine(V5 A s g 0 cap c.length rb 0 rcap W (λt=>p.getD t 0) ((n A _ _ 0 k1.2).trans rfl) ((n s _ _ 0 k3.2).trans (by rw[hl];rfl)) d ds ab (by omega) (λj hj=>⟨?_,?_⟩) (λt w=>?_) (lt g _ e3) (lt A _ k1.2) (lt s _ k3.2) (lt rb _ f3) n1 n2 n3).mono ?_
   ·rw[Abz,n g cur 3 j e3,J j (by omega)];show _=some (Value.int .i64 ((d[j]!).val:Int))
    rw[ac j (by omega)]
   ·simp [World.frozen?,m.heap,e3]
   ·rw[Abz,n rb rcur 3 t f3];exact aa t w
   rintro e w' ⟨rfl,l,q,C,hp,ad,rfl⟩;have M:l.size=c.length:=hp.1.trans ds;have Q:(l.toList.map (λk=>(k.val:Int))).Perm c:=by
    have a:=hp.2.2;have ae:l.extract 0 d.size=l:=by rw[←hp.1];exact Array.extract_size
    rw[ae,Array.extract_size] at a;have:=a.map (λk:Fin c.length=>(k.val:Int));rwa [K] at this
   have af:(l.toList.map (λk=>(k.val:Int))).Pairwise λa b=>Rv p b a=false:=by
    rw[List.pairwise_map,Ael];intro i j hi hj ag;have ah:i<l.size:=by simpa using hi
    have ai:j<l.size:=by simpa using hj
    have:=ad i j (Aa4 _) ag (by omega);rw[getElem!_pos l j ai,getElem!_pos l i ah] at this;simpa [Rv] using this
   have hq:=VB p (λx I=>(u x I).1) Q af;rw[←hq];have aj:=Ut (λk:Fin c.length=>Value.int .i64 (k.val:Int)) W q g l C (cur:=cur) (T:=3) (fr:=(0,0)) (by rw[m.heap];exact e3);have U:=Z.upd (H':=OS AC 3 (.slice (some ⟨g,0,none⟩) c.length cap) (l.toList.map (λk=>(k.val:Int)))) (h':=(grow (putRow (λk:Fin c.length=>Value.int .i64 (k.val:Int)) (Sort.ahead W q) g 0 l) C).heap) (.tail .head) (by have:=Sv (λk:Fin c.length=>Value.int .i64 (k.val:Int)) W q g l C;rw[m.heap] at this;exact this) (λF V m2=>by
    rcases V with ⟨_,V,_⟩|⟨g',cap',cur',V,m3,_⟩
    ·rw[V] at D;cases D
    ·injection V with X z2 z3
     injection X with X
     injection X with X
     subst X;refine⟨F,.inr ⟨g,cap,_,by simp [M],m3,aj,by simpa [M] using e4,e5,?_,?_⟩,λ_ z=> .inl z,λb z ak=>?_⟩
     ·simp only[putCells,Array.size_mapIdx];rw[e6];exact(Acr _).symm
     ·have w:=Tt (λk:Fin c.length=>Value.int .i64 (k.val:Int)) l cur (by omega);rw[show (l.toList.map (λk=>(k.val:Int))).length*AC.sz=l.size from by simp;exact Acr _,w];have:l.toList.map (λk:Fin c.length=>Value.int .i64 (k.val:Int))=(l.toList.map (λk=>(k.val:Int))).map (Value.int .i64):=by rw[List.map_map];rfl
      rw[this];exact WG λx I=>r2 x (Q.mem_iff.1 I)
     ·rw[Us _ W q g b l C (by rw[m.heap];exact z) (λe=>ak ((m3 b).2 e)),m.heap])
   exact⟨_,S,_,rfl,⟨rfl,m.os,m.tape,m.out⟩,U.2,rfl,U.1⟩
  ·have al:c.length=1:=by omega
   obtain⟨x,rfl⟩:∃x,c=[x]:=List.length_eq_one_iff.1 al;have hT:=Any.sort_Slice_tiny (P:=Tryz.prog) { Aac with} 29 3 Aad mO (by kernel_rfl) (by kernel_rfl) (by kernel_rfl) (by kernel_rfl) 2 (λ_=>by kernel_rfl) (some ⟨g,0,none⟩) 1 cap (Abd _) 315 (by rw[yW];kernel_rfl) (.func 292) #[] #[.pointer (some ⟨A,0,none⟩),.pointer (some ⟨s,0,none⟩)] W;change Calls Tryz.prog 291 _ _ _ at hT;refine hT.mono ?_;rintro e w' ⟨rfl,C,rfl⟩;have ho:DX h (grow W C).heap:=⟨by show h.size≤(W.heap++C).size;rw[m.heap];simp,λb z=>by show(W.heap++C)[b]? =_;rw[m.heap,Aeq z]⟩
   exact⟨_,S,_,rfl,⟨rfl,m.os,m.tape,m.out⟩,ho.ext Z.1,rfl,ho.st Z⟩
 ·cases E
set_option maxHeartbeats 2000000
def Oa (hs:St S L h) {r:AF}(E:J7 N=some r):
 B3 prog 95 #[] S h (λv S' h'=>Rd S' h' BV v r∧St S' (L) h'):=by
 refine BA 24 func95 O ntmps95 O λB=>?_;rw[J7] at E;refine AU ?_;refine CF Z6 O hs λb1 h2 ad e4=>AU ?_;refine FY (cs:=[vI 0,vI 0]) bJ O O O (FY (cs:=[vI 100,vI 200]) bJ O O O (AU ?_));refine Dn (cs:=[vI 0,vI 0,vI 100,vI 200]) wV O O O O O O O ad λg h6 ae e8=>AU ?_;have af:=ae.bxos (r:=B4) (l:=([(⟨0,0⟩:BT),(⟨100,200⟩:BT)]:List BT)) .head ⟨_,_,O,⟨O,⟨(iq (n:=0) O),(iq (n:=0) O)⟩⟩,⟨_,_,O,⟨O,⟨(iq (n:=100) O),(iq (n:=200) O)⟩⟩,O⟩⟩ (by simp [maxLen]);obtain⟨ay,i,az,b⟩:=af.pubs .head;refine AU ?_;refine Dn (cs:=[vI 60]) HZ O O O O O O O i λj a0 k a1=>AU ?_;have m:=k.bxos (r:=AC) (l:=([60]:List Int)) .head ⟨_,_,O,⟨O,(iq (n:=60) O)⟩,O⟩ (by simp [maxLen]);obtain⟨a2,o,a3,ag⟩:=m.pubs .head;refine FY (cs:=[.string (ByteArray.mk #[116,111,112]),vI 0,vI 0,vI 100,(.slice (some ⟨g,0,none⟩) 2 2),(.slice (some ⟨j,0,none⟩) 1 1),vI 1,vI 10,vI 1,vI 0,vI 0,vN]) W6 O O O (AU ?_);refine CF NI O o λa4 a5 p a6=>?_;refine C7 O O O O NJ.1 O p .head O λa7 q a8=>AU ?_;refine Dn (cs:=[vI 20]) HZ O O O O O O O q λs a9 t ba=>AU ?_;have u:=t.bxos (r:=AC) (l:=([20]:List Int)) .head ⟨_,_,O,⟨O,(iq (n:=20) O)⟩,O⟩ (by simp [maxLen]);obtain⟨bb,w,bc,ah⟩:=u.pubs .head;refine FY (cs:=[.string (ByteArray.mk #[109,105,100]),vI 0,vI 1,vI 100,(.slice (some ⟨g,0,none⟩) 2 2),(.slice (some ⟨s,0,none⟩) 1 1),vI 0,vI 0,vI 2,vI 1,vI 0,vN]) W6 O O O (AU ?_);refine CF NI O w λbe bf y bg=>?_;refine C7 O O O O NJ.1 O y .head O λbh z bi=>AU ?_;refine Dn (cs:=[vI 30]) HZ O O O O O O O z λA bj C bk=>AU ?_;have D:=C.bxos (r:=AC) (l:=([30]:List Int)) .head ⟨_,_,O,⟨O,(iq (n:=30) O)⟩,O⟩ (by simp [maxLen]);obtain⟨bl,F,bm,ai⟩:=D.pubs .head;refine FY (cs:=[.string (ByteArray.mk #[108,111,119]),vI 0,vI 2,vI 30,(.slice (some ⟨g,0,none⟩) 2 2),(.slice (some ⟨A,0,none⟩) 1 1),vI 1,vI 2,vI (-1),vI 0,vI 0,vN]) W6 O O O (AU ?_);refine CF NI O F λbn bo G bp=>?_;refine C7 O O O O NJ.1 O G .head O λbq H br=>AU ?_;refine Dn (cs:=[.string (ByteArray.mk #[112,117,98,108,105,99])]) nB O O O O O O O H λaj bs I bt=>AU ?_;refine Dn (cs:=[.string (ByteArray.mk #[116,111,112]),vI 0,vI 0,vI 100,(.slice (some ⟨g,0,none⟩) 2 2),(.slice (some ⟨j,0,none⟩) 1 1),vI 1,vI 10,vI 1,vI 0,vI 0,vN,.string (ByteArray.mk #[109,105,100]),vI 0,vI 1,vI 100,(.slice (some ⟨g,0,none⟩) 2 2),(.slice (some ⟨s,0,none⟩) 1 1),vI 0,vI 0,vI 2,vI 1,vI 0,vN,.string (ByteArray.mk #[108,111,119]),vI 0,vI 2,vI 30,(.slice (some ⟨g,0,none⟩) 2 2),(.slice (some ⟨A,0,none⟩) 1 1),vI 1,vI 2,vI (-1),vI 0,vI 0,vN]) wX O O O O O O O I λak bu J bv=>Dn (cs:=[vI 1000,vI 1000,vI 1000]) HZ O O O O O O O J λam bw K bx=>AU ?_
 have M:=K.bxos (r:=A4.str) (l:=Pg) (.tail (.tail .head)) ⟨_,_,O,⟨O,(by decide)⟩,O⟩ (by simp [maxLen,Pg]);obtain⟨bz,Q,b0,an⟩:=M.pubs (.tail (.tail .head));have ao:=b.nw;have ap:=ai.nw;have aq:=b.nw;have ar:=ah.nw;have au:=b.nw;have av:=ag.nw;have U:=Q.bxos (r:=CC) (l:=Pf) (.tail .head) ⟨_,_,O,⟨_,_,_,O,(by decide),(iq (n:=0) O),(iq (n:=0) O),(iq (n:=100) O),au,av,(iq (n:=1) O),(iq (n:=10) O),(iq (n:=1) O),(iq (n:=0) O),(iq (n:=0) O),(.inl ⟨O,O⟩)⟩,⟨_,_,O,⟨_,_,_,O,(by decide),(iq (n:=0) O),(iq (n:=1) O),(iq (n:=100) O),aq,ar,(iq (n:=0) O),(iq (n:=0) O),(iq (n:=2) O),(iq (n:=1) O),(iq (n:=0) O),(.inl ⟨O,O⟩)⟩,⟨_,_,O,⟨_,_,_,O,(by decide),(iq (n:=0) O),(iq (n:=2) O),(iq (n:=30) O),ao,ap,(iq (n:=1) O),(iq (n:=2) O),(iq (n:=(-1)) O),(iq (n:=0) O),(iq (n:=0) O),(.inl ⟨O,O⟩)⟩,O⟩⟩⟩ (by simp [maxLen,Pf]);obtain⟨b2,V,b3,aw⟩:=U.pubs (.tail .head);have W:=V.bxos (r:=AC) (l:=([1000,1000,1000]:List Int)) .head ⟨_,_,O,⟨O,(iq (n:=1000) O)⟩,⟨_,_,O,⟨O,(iq (n:=1000) O)⟩,⟨_,_,O,⟨O,(iq (n:=1000) O)⟩,O⟩⟩⟩ (by simp [maxLen]);obtain⟨b4,X,b6,ax⟩:=W.pubs .head;refine FY (cs:=[.string (ByteArray.mk #[120]),(.slice (some ⟨aj,0,none⟩) 1 1),vI 0,(.slice (some ⟨ak,0,none⟩) 3 3),vN,vN,vN,vN,vN,(.slice (some ⟨am,0,none⟩) 3 3),vI 0]) vC O O O (AU ?_);refine C7 O O O O Xo.1 O X (.tail (.tail (.tail .head))) O λb7 c Y=>AU ?_;refine Bu (λaa ww hf hw=>?_);have a:=c.sel [3] 3 O;have Z:=an.nw;have ab:=aw.nw;have ac:=ax.mono' Y;have d:=a.drop .head;cases E;exact JA hf O hw (G7 (UC hf hw a O mh Xo.1 O) I9) O EX ⟨(BV.mk (x:=(⟨(ByteArray.mk #[120]),Pg,0,Pf,[],[],[],[],[],([1000,1000,1000]:List Int),0⟩:AF)) (by decide) Z (iq (n:=0) O) ab (.inl ⟨O,O⟩) (.inl ⟨O,O⟩) (.inl ⟨O,O⟩) (.inl ⟨O,O⟩) (.inl ⟨O,O⟩) ac (iq (n:=0) O)),d⟩
def Dp (k:St S L h) {b:Value}{c:(List Int)}(a:Sl S h AC b c) {r:(List Int)}(E:Co N c=some r):
 B3 prog 116 #[b] S h (λv S' h'=>St S' (OS AC 3 v r::L) h'):=by
 refine BA 8 func116 O ntmps116 O λB=>?_;rw[Co] at E;rcases a.cases with ⟨rfl,rfl⟩|⟨n,m,rfl,a⟩
 ·have s:(some ([]:List Int))=some r:=by simpa [chk,Ih] using E
  refine AU ?_;refine Y1 O O O aL (AU ?_);refine VQ O (AU ?_);have d:=k.nil AC 3;cases E;exact Kk d O O EX
 refine AU ?_;refine gV O O O aL (AU ?_);refine Tc O (AU ?_);refine Vc (r:=AC) HZ O O k λv1 t g o=>AU ?_;have p:=a.mono' o;obtain⟨i,E⟩:=LQ E;refine Io (r:=AC) (l:=([]:List Int)) (xs:=c) O O HZ O (Sl.src p) O i O g (λ_=> .head) λu w j q=>AU ?_;cases E;exact Kk j O O EX
def Sr (hs:St S L h) {ac:Value}{c:AF}(aq:Rd S h BV ac c) {d:Int}(bb:AB d) {r:AE}(E:N4 N c d=some r):
 B3 prog 41 #[ac,vI d] S h (λv S' h'=>Rd S' h' A7 v r∧St S' (L) h'):=by
 refine BA 47 func41 O ntmps41 O λB=>?_;rw[N4] at E;refine AU ?_;refine By O aq CE O hs λq1 S2 h3 eh e5 k6=>CF MC O eh λb7 h8 j hm=>AU ?_;obtain⟨b6,E⟩:=LQ E;obtain⟨b8,E⟩:=LQ E;obtain⟨b9,E⟩:=LQ E;obtain⟨ca,E⟩:=LQ E;obtain⟨cb,E⟩:=LQ E;refine Yj (m:=[(4,vP b7 0),(2,q1),(1,vI d)]) [23] [] [4,8,12,16,20,22] ⟨[(21,[8,12,16,20,24,28])],λi l=>match i,l with|21,[some a8,some ei,some ej,some ek,some el,some em]=>some (.agg ([a8]++[ei]++[ej]++[(vN:Value)]++[ek]++[el]++[em]).toArray)|_,_=>none⟩ (by kernel_rfl) (by kernel_rfl) (λi v t=>match i with|0=>v=vI d∧AB d|1=>Pt S2 t (A4.sl CC) v c.A|2=>Sl S2 t CC v c.A|3=>v=vI (↑c.A.length:Int)∧AB (↑c.A.length:Int)|4=>Zr S2 h8 (A4.sl AC) 29 (List.replicate ((↑c.A.length:Int):Int).toNat ([]:(List Int))) v t|5=>Pt S2 t (A4.sl CC) v c.A|6=>Sl S2 t CC v c.A|7=>v=vI (↑c.A.length:Int)∧AB (↑c.A.length:Int)|8=>Zr S2 h8 AC 3 (List.replicate ((↑c.A.length:Int):Int).toNat (0:Int)) v t|9=>Pt S2 t (A4.sl B0) v c.G|10=>Sl S2 t B0 v c.G|11=>v=vI (↑c.G.length:Int)∧AB (↑c.G.length:Int)|12=>Zr S2 h8 BL 106 (List.replicate ((↑c.G.length:Int):Int).toNat ((⟨0,0,false,false⟩:AT):AT)) v t|13=>Pt S2 t (A4.sl A4.str) v c.F|14=>Sl S2 t A4.str v c.F|15=>v=vI (↑c.F.length:Int)∧AB (↑c.F.length:Int)|16=>Zr S2 h8 AC 3 (List.replicate ((↑c.F.length:Int):Int).toNat (0:Int)) v t|17=>Pt S2 t (A4.sl A4.str) v c.F|18=>Sl S2 t A4.str v c.F|19=>v=vI (↑c.F.length:Int)∧AB (↑c.F.length:Int)|20=>Zr S2 h8 AC 3 (List.replicate ((↑c.F.length:Int):Int).toNat (0:Int)) v t|21=>True|22=>Z3 h8 36 [vI 0,vN,vN,vN,vN,vN,vN] v t|_=>False) [[],[],[(1,9)],[(2,10)],[(3,11)],[],[(5,13)],[(6,14)],[(7,15)],[],[(9,17)],[(10,18)],[(11,19)],[],[(13,21)],[(14,22)],[(15,23)],[],[(17,25)],[(18,26)],[(19,27)],[(0,8),(4,12),(8,16),(12,20),(16,24),(20,28)],[],[]] [(0,8),(4,12),(8,16),(12,20),(16,24),(20,28),(21,29),(22,5)] mo (by kernel_rfl) [4,2,1] O (by kernel_rfl) (by kernel_rfl) (by kernel_rfl) O (kp [4,2,1] O) (λi v h1 h2 o1 o2 C=>?_) (by kernel_rfl) (PP O (PP O (PP O (PP O (PP O (kP (T:=36) O fU)))))) ?_ ?_ ?_
 ·match i,C with
   |0,C|3,C|7,C|11,C|15,C|19,C|21,C=>exact C
   |1,C|5,C|9,C|13,C|17,C=>exact My.mono C (o2.ext λb hb=>Aa9 (j.1 b hb) o1.siz)
   |2,C|6,C|10,C|14,C|18,C=>exact Sl.mono' C (o2.ext λb hb=>Aa9 (j.1 b hb) o1.siz)
   |4,C|8,C|12,C|16,C|20,C=>exact C.mono j.1 o2
   |22,C=>exact C.mono o2
   |_+23,C=>exact C.elim
 ·exact trivial
 ·refine Cx.cons O O O D8 (Cx.cons O O O ?_ ?_)
  ·intro V t o;have q:=o.st j;have en:=k6.nw;have eo:=en.fl B5;refine AU ?_;exact A5 eo
  refine Cx.cons O O O ?_ ?_
  ·intro V t o;intro ep bc;have q:=o.st j;have bc:Pt _ _ (A4.sl CC) ep c.A:=bc;obtain⟨hn,_,eq⟩:=bc.ll;refine AU ?_;exact A5 eq
  refine Cx.cons O O O ?_ ?_
  ·intro V t o;intro er be;have q:=o.st j;have be:Sl _ _ CC er c.A:=be;have es:=be.le;refine AU ?_;exact A5 ⟨O,(KZ es)⟩
  refine Cx.nw O O O (λ_ _ o _ eu=>by obtain⟨rfl,ho⟩:=eu;exact Ti (r:=(A4.sl AC)) (zx:=[]) Mo O ⟨_,O,.inl ⟨O,O⟩⟩ O O b6 O O o j.1 λv' h' o' r' f'=>A9 o' ⟨r',f'⟩) ?_;refine Cx.cons O O O ?_ ?_
  ·intro V t o;have q:=o.st j;have ev:=k6.nw;have ew:=ev.fl B5;refine AU ?_;exact A5 ew
  refine Cx.cons O O O ?_ ?_
  ·intro V t o;intro ey bf;have q:=o.st j;have bf:Pt _ _ (A4.sl CC) ey c.A:=bf;obtain⟨hp,_,ez⟩:=bf.ll;refine AU ?_;exact A5 ez
  refine Cx.cons O O O ?_ ?_
  ·intro V t o;intro e0 bg;have q:=o.st j;have bg:Sl _ _ CC e0 c.A:=bg;have e1:=bg.le;refine AU ?_;exact A5 ⟨O,(KZ e1)⟩
  refine Cx.nw O O O (λ_ _ o _ e2=>by obtain⟨rfl,hq⟩:=e2;exact Ti (r:=AC) (zx:=0) HZ O ⟨O,by unfold AB;omega⟩ O O b8 O O o j.1 λv' h' o' r' f'=>A9 o' ⟨r',f'⟩) ?_;refine Cx.cons O O O ?_ ?_
  ·intro V t o;have q:=o.st j;have e3:=k6.nw;have e4:=e3.fl Gv;refine AU ?_;exact A5 e4
  refine Cx.cons O O O ?_ ?_
  ·intro V t o;intro e6 bh;have q:=o.st j;have bh:Pt _ _ (A4.sl B0) e6 c.G:=bh;obtain⟨ht,_,e7⟩:=bh.ll;refine AU ?_;exact A5 e7
  refine Cx.cons O O O ?_ ?_
  ·intro V t o;intro e8 bi;have q:=o.st j;have bi:Sl _ _ B0 e8 c.G:=bi;have e9:=bi.le;refine AU ?_;exact A5 ⟨O,(KZ e9)⟩
  refine Cx.nw O O O (λ_ _ o _ fa=>by obtain⟨rfl,hu⟩:=fa;exact Ti (r:=BL) (zx:=(⟨0,0,false,false⟩:AT)) WZ O ⟨O,by unfold AT.ok AB;simp [IntKind.has,IntKind.min,IntKind.max,IntKind.bits,IntKind.signed]⟩ O O b9 O O o j.1 λv' h' o' r' f'=>A9 o' ⟨r',f'⟩) ?_;refine Cx.cons O O O ?_ ?_
  ·intro V t o;have q:=o.st j;have fb:=k6.nw;have fc:=fb.fl Hn;refine AU ?_;exact A5 fc
  refine Cx.cons O O O ?_ ?_
  ·intro V t o;intro fd bj;have q:=o.st j;have bj:Pt _ _ (A4.sl A4.str) fd c.F:=bj;obtain⟨hv,_,fe⟩:=bj.ll;refine AU ?_;exact A5 fe
  refine Cx.cons O O O ?_ ?_
  ·intro V t o;intro ff af;have q:=o.st j;have af:Sl _ _ A4.str ff c.F:=af;have cc:=af.le;refine AU ?_;exact A5 ⟨O,(KZ cc)⟩
  refine Cx.nw O O O (λ_ _ o _ cd=>by obtain⟨rfl,fh⟩:=cd;exact Ti (r:=AC) (zx:=0) HZ O ⟨O,by unfold AB;omega⟩ O O ca O O o j.1 λv' h' o' r' f'=>A9 o' ⟨r',f'⟩) ?_;refine Cx.cons O O O ?_ ?_
  ·intro V t o;have q:=o.st j;have ce:=k6.nw;have cf:=ce.fl Hn;refine AU ?_;exact A5 cf
  refine Cx.cons O O O ?_ ?_
  ·intro V t o;intro cg ag;have q:=o.st j;have ag:Pt _ _ (A4.sl A4.str) cg c.F:=ag;obtain⟨fi,_,ch⟩:=ag.ll;refine AU ?_;exact A5 ch
  refine Cx.cons O O O ?_ ?_
  ·intro V t o;intro ci ah;have q:=o.st j;have ah:Sl _ _ A4.str ci c.F:=ah;have cj:=ah.le;refine AU ?_;exact A5 ⟨O,(KZ cj)⟩
  refine Cx.nw O O O (λ_ _ o _ ck=>by obtain⟨rfl,fj⟩:=ck;exact Ti (r:=AC) (zx:=0) HZ O ⟨O,by unfold AB;omega⟩ O O cb O O o j.1 λv' h' o' r' f'=>A9 o' ⟨r',f'⟩) ?_;refine Cx.z [8,12,16,20,24,28] O O O (by kernel_rfl) ?_ ?_
  ·intro V t o;intro fk cl fm az fn a0 fo a1 fp a2 fq a3;have q:=o.st j;obtain⟨rfl,fr⟩:=cl;obtain⟨cm,ar,rfl,az⟩:=az;obtain⟨cn,au,rfl,a0⟩:=a0;obtain⟨co,av,rfl,a1⟩:=a1;obtain⟨cp,aw,rfl,a2⟩:=a2;obtain⟨cq,ax,rfl,a3⟩:=a3;refine AU ?_;refine FY (cs:=[vI d,(.slice (some ⟨cm,0,none⟩) (List.replicate ((↑c.A.length:Int):Int).toNat ([]:(List Int))).length ar),(.slice (some ⟨cn,0,none⟩) (List.replicate ((↑c.A.length:Int):Int).toNat (0:Int)).length au),vN,(.slice (some ⟨co,0,none⟩) (List.replicate ((↑c.G.length:Int):Int).toNat ((⟨0,0,false,false⟩:AT):AT)).length av),(.slice (some ⟨cp,0,none⟩) (List.replicate ((↑c.F.length:Int):Int).toNat (0:Int)).length aw),(.slice (some ⟨cq,0,none⟩) (List.replicate ((↑c.F.length:Int):Int).toNat (0:Int)).length ax)]) mI O O O (AU ?_);exact A5 ⟨trivial,O,O⟩
  exact Cx.al O MC O O (Cx.skip (by kernel_rfl) (trivial))
 intro fs cr ft ct fu cu fv cv fw cw fx cx fy cy cz f0 f1 c0 g bk;obtain⟨K,u,rfl,c1,c2,c3⟩:=cu;obtain⟨W,D,rfl,c4,c5,c6⟩:=cv;obtain⟨X,H,rfl,c7,c8,c9⟩:=cw;obtain⟨Y,I,rfl,da,db,dc⟩:=cx;obtain⟨Z,J,rfl,dd,de,df⟩:=cy;obtain⟨M,rfl,dg,dh,di⟩:=c0;have bl:=(Wo.cons (Ns (Ns (Ns (Ns (Ns (Wo.nil j cr) c1 c2 c3 Abm) c4 c5 c6 (XM (g.of_ (s:=16) (s':=12) (by kernel_rfl) O O O O) Abm)) c7 c8 c9 (XM (g.of_ (s:=20) (s':=16) (by kernel_rfl) O O O O) (XM (g.of_ (s:=20) (s':=12) (by kernel_rfl) O O O O) Abm))) da db dc (XM (g.of_ (s:=24) (s':=20) (by kernel_rfl) O O O O) (XM (g.of_ (s:=24) (s':=16) (by kernel_rfl) O O O O) (XM (g.of_ (s:=24) (s':=12) (by kernel_rfl) O O O O) Abm)))) dd de df (XM (g.of_ (s:=28) (s':=24) (by kernel_rfl) O O O O) (XM (g.of_ (s:=28) (s':=20) (by kernel_rfl) O O O O) (XM (g.of_ (s:=28) (s':=16) (by kernel_rfl) O O O O) (XM (g.of_ (s:=28) (s':=12) (by kernel_rfl) O O O O) Abm))))) dg dh di (XM (g.of_ (s:=5) (s':=28) (by kernel_rfl) O O O O) (XM (g.of_ (s:=5) (s':=24) (by kernel_rfl) O O O O) (XM (g.of_ (s:=5) (s':=20) (by kernel_rfl) O O O O) (XM (g.of_ (s:=5) (s':=16) (by kernel_rfl) O O O O) (XM (g.of_ (s:=5) (s':=12) (by kernel_rfl) O O O O) Abm)))))).st;obtain⟨rfl,dj⟩:=ct;obtain rfl:cz=Value.agg #[vI d,(.slice (some ⟨K,0,none⟩) (List.replicate ((↑c.A.length:Int):Int).toNat ([]:(List Int))).length u),(.slice (some ⟨W,0,none⟩) (List.replicate ((↑c.A.length:Int):Int).toNat (0:Int)).length D),vN,(.slice (some ⟨X,0,none⟩) (List.replicate ((↑c.G.length:Int):Int).toNat ((⟨0,0,false,false⟩:AT):AT)).length H),(.slice (some ⟨Y,0,none⟩) (List.replicate ((↑c.F.length:Int):Int).toNat (0:Int)).length I),(.slice (some ⟨Z,0,none⟩) (List.replicate ((↑c.F.length:Int):Int).toNat (0:Int)).length J)]:=(Aa1 (bk _ Abn 29 _ (by kernel_rfl) O O)).symm;refine C7 O O O O Ho.1 O bl .head O λai bm f2=>?_;have dk:=k6.nw;have dl:=dk.fl B5;obtain⟨a4,_,dm⟩:=dl.ll;refine AU ?_;refine AO (λa w=>∃(ad:List (List Int)),IV B S2 ai (47,[]) a w [(5,vP M 0),(4,vP b7 0)] (Bx M 36 [vI d,(.slice (some ⟨K,0,none⟩) (List.replicate ((↑c.A.length:Int):Int).toNat ([]:(List Int))).length u),(.slice (some ⟨W,0,none⟩) (List.replicate ((↑c.A.length:Int):Int).toNat (0:Int)).length D),vN,(.slice (some ⟨X,0,none⟩) (List.replicate ((↑c.G.length:Int):Int).toNat ((⟨0,0,false,false⟩:AT):AT)).length H),(.slice (some ⟨Y,0,none⟩) (List.replicate ((↑c.F.length:Int):Int).toNat (0:Int)).length I),(.slice (some ⟨Z,0,none⟩) (List.replicate ((↑c.F.length:Int):Int).toNat (0:Int)).length J)]::OS AC 3 (.slice (some ⟨Z,0,none⟩) (List.replicate ((↑c.F.length:Int):Int).toNat (0:Int)).length J) (List.replicate ((↑c.F.length:Int):Int).toNat (0:Int))::OS AC 3 (.slice (some ⟨Y,0,none⟩) (List.replicate ((↑c.F.length:Int):Int).toNat (0:Int)).length I) (List.replicate ((↑c.F.length:Int):Int).toNat (0:Int))::OS BL 106 (.slice (some ⟨X,0,none⟩) (List.replicate ((↑c.G.length:Int):Int).toNat ((⟨0,0,false,false⟩:AT):AT)).length H) (List.replicate ((↑c.G.length:Int):Int).toNat ((⟨0,0,false,false⟩:AT):AT))::OS AC 3 (.slice (some ⟨W,0,none⟩) (List.replicate ((↑c.A.length:Int):Int).toNat (0:Int)).length D) (List.replicate ((↑c.A.length:Int):Int).toNat (0:Int))::OS (A4.sl AC) 29 (.slice (some ⟨K,0,none⟩) (List.replicate ((↑c.A.length:Int):Int).toNat ([]:(List Int))).length u) ad::Bx b7 36 [vI 0,vN,vN,vN,vN,vN,vN]::L) λ_ _=>KP N c d ad=some r) ?_ ?_
 ·refine AX (λn1=>λa w=>∃(y:Int) (Q:List (List Int)),IV B S2 ai (47,[]) a w [(32,vI (↑c.A.length:Int)),(31,a4),(5,vP M 0),(4,vP b7 0),(33,vI y)] (Bx M 36 [vI d,(.slice (some ⟨K,0,none⟩) (List.replicate ((↑c.A.length:Int):Int).toNat ([]:(List Int))).length u),(.slice (some ⟨W,0,none⟩) (List.replicate ((↑c.A.length:Int):Int).toNat (0:Int)).length D),vN,(.slice (some ⟨X,0,none⟩) (List.replicate ((↑c.G.length:Int):Int).toNat ((⟨0,0,false,false⟩:AT):AT)).length H),(.slice (some ⟨Y,0,none⟩) (List.replicate ((↑c.F.length:Int):Int).toNat (0:Int)).length I),(.slice (some ⟨Z,0,none⟩) (List.replicate ((↑c.F.length:Int):Int).toNat (0:Int)).length J)]::OS AC 3 (.slice (some ⟨Z,0,none⟩) (List.replicate ((↑c.F.length:Int):Int).toNat (0:Int)).length J) (List.replicate ((↑c.F.length:Int):Int).toNat (0:Int))::OS AC 3 (.slice (some ⟨Y,0,none⟩) (List.replicate ((↑c.F.length:Int):Int).toNat (0:Int)).length I) (List.replicate ((↑c.F.length:Int):Int).toNat (0:Int))::OS BL 106 (.slice (some ⟨X,0,none⟩) (List.replicate ((↑c.G.length:Int):Int).toNat ((⟨0,0,false,false⟩:AT):AT)).length H) (List.replicate ((↑c.G.length:Int):Int).toNat ((⟨0,0,false,false⟩:AT):AT))::OS AC 3 (.slice (some ⟨W,0,none⟩) (List.replicate ((↑c.A.length:Int):Int).toNat (0:Int)).length D) (List.replicate ((↑c.A.length:Int):Int).toNat (0:Int))::OS (A4.sl AC) 29 (.slice (some ⟨K,0,none⟩) (List.replicate ((↑c.A.length:Int):Int).toNat ([]:(List Int))).length u) Q::Bx b7 36 [vI 0,vN,vN,vN,vN,vN,vN]::L) λ_ _=>AB y∧JL N c (KP N c d) n1 y Q=some r) N ?_ ?_ ?_
  ·intro aa ww hf hw;exact⟨0,(List.replicate ((↑c.A.length:Int):Int).toNat ([]:(List Int))),_,_,hf.sub (kp [32,31,5,4,33] O),hw,bm,(B9.refl S2 ai),(iq (n:=0) O),E⟩
  ·rintro aa ww ⟨_,_,_,_,_,_,_,_,_,E⟩;rw[JL] at E;cases E
  rintro n1 aa ww ⟨y,Q,a5,f3,hf,hw,aj,a6,f4,E⟩;refine AK ?_ hf hw;clear hf hw ww aa;rw[JL] at E;refine AU ?_;refine AH O E (λdn E=>?_) (λdn E=>?_)
  ·refine AU ?_;refine AY (AU ?_);have dp:=dm.mono' a6;refine A6 E O O dp Md.1 O λa7 E f5 dq=>?_;obtain⟨f6,_,dr⟩:=dq.lv;refine AU ?_;refine CF NI O aj λa9 f7 bn ds=>AU ?_;have dt:=dr.mono ds;obtain⟨f8,f9,ga,rfl,gb,gc,gd,ge,gf,du,gg,gh,gi,gj,gl,gm⟩:=CC.ex dt;refine DL O O O ON NJ.1 O bn .head O λba U gn=>AU ?_;refine Rk (kp [6,7,32,31,5,4,33] O) ?_;obtain⟨ak,bo,E⟩:=bd E;obtain⟨gp,bp,E⟩:=bd E;refine Ms (m:=[(6,vI y),(7,vP a9 0),(32,vI (↑c.A.length:Int)),(31,a4),(5,vP M 0),(4,vP b7 0),(33,vI y)]) 7 (λi v t=>match i with|0=>v=vP M 1|1=>v=(.slice (some ⟨K,0,none⟩) (List.replicate ((↑c.A.length:Int):Int).toNat ([]:(List Int))).length u)|2=>v=vI y∧AB y|3=>v=vP a9 5|4=>Sl a5 t AC v a7.Be|5=>Sl (SN a5 ba t) t AC v ak|6=>EP (.slice (some ⟨K,0,none⟩) (List.replicate ((↑c.A.length:Int):Int).toNat ([]:(List Int))).length u) (y.toNat*((A4.sl AC)).sz+0) v|_=>False) [[],[(0,38)],[],[],[(3,41)],[(4,42)],[(1,39),(2,40)]] [(5,43),(6,44)] mo (by kernel_rfl) [6,7,32,31,5,4,33] O (by kernel_rfl) (by kernel_rfl) (by kernel_rfl) (kp [6,7,32,31,5,4,33] O) MO ?_ ?_
   ·refine AQ.cons O D8 (AQ.cons O D8 (AQ.cons O D8 (AQ.cons O D8 (AQ.cons O ?_ ?_))))
    ·intro V t o;intro gq dv;have q:=o.st U;cases dv;refine AU ?_;have dw:=du.nw;exact A5 dw
    refine AQ.cons O ?_ ?_
    ·intro V t o;intro dx ab;have q:=SN.st U o;have ab:=Sl.sn ba ab;have ab:Sl _ _ AC dx a7.Be:=ab;have ay:=q.fz;refine FA O O O QR O ay (Dp (St.all _) (ab.mono ay.ea.1 ay.ea.2) bo) λgr gs gt fg gu dy p=>?_;have bq:=p;have am:=ay.join dy bq ⟨OS.flat (λ{_ _ _ _ _ _} k=>k),trivial⟩;simp only[Abw,Abj] at am;obtain⟨gv,br,gw,dz⟩:=am.pubs .head;have an:=Fz.done o EX br;exact A9 an.1 (Sl.mono' dz an.2)
    refine AQ.cons O ?_ ?_
    ·intro V t o;intro gx d0 gy d1;have q:=o.st U;cases d0;obtain⟨rfl,gz⟩:=d1;refine AU ?_;refine BS q (mt (mt (mt (mt (mt (mt mh)))))) O O H6.1 bp O λg0 bs=>AU ?_;exact A5 bs
    exact trivial
   intro g1 d2 d3 ao g2 d4;have bt:=SN.st U d2;have ao:Sl _ _ AC d3 ak:=ao;obtain⟨d5,bu,E⟩:=bd E;refine E9 (r:=(A4.sl AC)) (l:=Q) (i:=y) (x:=d5) O O (OC ao) d4 bu NT.id G6.1 (λ_=>rfl) bt (.tail (.tail (.tail (.tail (.tail (.tail .head)))))) λg3 bv g4=>AU ?_;refine BE (AU ?_);refine WF.nil (λaa ww hf hw=>?_);have bw:=bv.sel [1,1,1,1,1,1,1] 1 O;exact⟨(BC (y+1)),(upd Q y ak),_,_,hf.sub (kp [32,31,5,4,33] O),hw,bw,EX,(BH _),E⟩
  refine BB O (λaa ww hf hw=>?_);exact⟨Q,_,_,hf.sub (kp [5,4] O),hw,aj,a6,E⟩
 rintro aa ww ⟨ad,g5,g6,hf,hw,bx,g7,E⟩;refine AK ?_ hf hw;clear hf hw ww aa;rw[KP] at E;refine AU ?_;refine C7 O O O O Ho.1 O bx (.tail (.tail (.tail (.tail (.tail (.tail .head)))))) O λg8 bz g9=>AU ?_;refine Bu (λaa ww hf hw=>?_);obtain⟨ha,b0,hc,d6⟩:=bz.pubs (.tail (.tail (.tail (.tail (.tail .head)))));obtain⟨hd,b1,he,d7⟩:=b0.pubs (.tail (.tail (.tail (.tail .head))));obtain⟨hg,b2,hi,d8⟩:=b1.pubs (.tail (.tail (.tail .head)));obtain⟨hj,b3,hk,d9⟩:=b2.pubs (.tail (.tail .head));obtain⟨hl,b4,eb,ec⟩:=b3.pubs (.tail .head);have ap:=b4.sel [1] 1 O;have ed:=d6.nw;have ee:=d7.nw;have ef:=d8.nw;have eg:=d9.mono' eb;have b5:=ap.drop .head;cases E;exact JA hf O hw (G7 (UC hf hw ap O mh Ho.1 O) I9) O EX ⟨(A7.mk (x:=(⟨d,ad,(List.replicate ((↑c.A.length:Int):Int).toNat (0:Int)),[],(List.replicate ((↑c.G.length:Int):Int).toNat ((⟨0,0,false,false⟩:AT):AT)),(List.replicate ((↑c.F.length:Int):Int).toNat (0:Int)),(List.replicate ((↑c.F.length:Int):Int).toNat (0:Int))⟩:AE)) dj ed ee (.inl ⟨O,O⟩) ef eg ec),b5⟩
def IL (k:St S L h) {b:Value}{c:(List AT)}(a:Sl S h BL b c) {r:(List AT)}(E:CR N c=some r):
 B3 prog 157 #[b] S h (λv S' h'=>St S' (OS BL 106 v r::L) h'):=by
 refine BA 8 func157 O ntmps157 O λB=>?_;rw[CR] at E;rcases a.cases with ⟨rfl,rfl⟩|⟨n,m,rfl,a⟩
 ·have s:(some ([]:List AT))=some r:=by simpa [chk,Ih] using E
  refine AU ?_;refine Y1 O O O aK (AU ?_);refine VQ O (AU ?_);have d:=k.nil BL 106;cases E;exact Kk d O O EX
 refine AU ?_;refine gV O O O aK (AU ?_);refine Tc O (AU ?_);refine Vc (r:=BL) WZ O O k λv1 t g o=>AU ?_;have p:=a.mono' o;obtain⟨i,E⟩:=LQ E;refine Io (r:=BL) (l:=([]:List AT)) (xs:=c) O O WZ O (Sl.src p) O i O g (λ_=> .head) λu w j q=>AU ?_;cases E;exact Kk j O O EX
def SE (hs:St S L h) {z:Value}{b:AE}(ab:Rd S h A7 z b) {r:AE}(E:KF N b=some r):
 B3 prog 78 #[z] S h (λv S' h'=>∃w1 w2 w3 w4 w5 w6:Value,v= .agg #[vI r.B,w1,w2,w3,w4,w5,w6]∧AB r.B∧Sl S' h' AS w3 r.E∧St S' (OO AC 3 29 w1 r.D::OS AC 3 w2 r.M::OS BL 106 w4 r.O::OS AC 3 w5 r.N::OS AC 3 w6 r.L::L) h'):=by
 refine BA 43 func78 O ntmps78 O λB=>?_;rw[KF] at E;refine AU ?_;obtain⟨v3,v5,v7,v9,K,J,rfl,r2,k4,k6,k8,bk,bl,bm⟩:=A7.ex ab;refine OG O O O hs λac cn ax bn=>CF MC O ax λad co ay cp=>?_;have cq:=k4.nw;refine AU ?_;obtain⟨az,E⟩:=LQ E;refine lY AC 3 Mo O O az O O ay λae ak a0 cr=>?_;have bo:=k4.nw;refine AU ?_;refine AO (λa w=>∃(m:List (List Int)),IV B S ak (43,[]) a w [(3,ae),(2,vP ad 0),(1,vP ac 0)] (OO AC 3 29 ae m::Bx ad 36 [vI 0,vN,vN,vN,vN,vN,vN]::Bx ac 36 [vI b.B,v3,v5,v7,v9,K,J]::L) λ_ _=>FJ N b m=some r) ?_ ?_
 ·refine AX (λn1=>λa w=>∃(s:Int) (Q:List (List Int)),IV B S ak (43,[]) a w [(12,vI (↑b.D.length:Int)),(11,v3),(3,ae),(2,vP ad 0),(1,vP ac 0),(13,vI s)] (OO AC 3 29 ae Q::Bx ad 36 [vI 0,vN,vN,vN,vN,vN,vN]::Bx ac 36 [vI b.B,v3,v5,v7,v9,K,J]::L) λ_ _=>AB s∧FI N b (FJ N b) n1 s Q=some r) N ?_ ?_ ?_
  ·intro aa ww A C;exact⟨0,(List.replicate ((↑b.D.length:Int):Int).toNat ([]:(List Int))),_,_,A.sub (kp [12,11,3,2,1,13] O),C,a0,(B9.refl S ak),(iq (n:=0) O),E⟩
  ·rintro aa ww ⟨_,_,_,_,_,_,_,_,_,E⟩;rw[FI] at E;cases E
  rintro n1 aa ww ⟨s,Q,cs,ct,A,C,o,a1,cu,E⟩;refine AK ?_ A C;clear A C ww aa;rw[FI] at E;refine AU ?_;refine AH O E (λbp E=>?_) (λbp E=>?_)
  ·refine AU ?_;refine AY (AU ?_);have bq:=bo.mono' a1;refine A6 E O O bq H6.1 O λcv E cw br=>?_;obtain⟨cx,_,bs⟩:=br.ll;refine AU ?_;refine Bv (AU ?_);refine CQ E O O O QR O o (λa2 a3=>Dp (St.all _) (bs.mono o.ea.1 o.ea.2) a3) λa2 E cy cz c0 b1 c1 bt p=>?_;have a4:=p;have U:=o.join bt a4 ⟨OS.flat (λ{_ _ _ _ _ _} k=>k),trivial⟩;simp only[Abw,Abj] at U;refine AU ?_;obtain⟨c2,a5,E⟩:=bd E;refine Q9 (r:=AC) U (mt mh) O O H6.1 a5 O λc3 a6=>AU ?_;obtain⟨c4,a7,E⟩:=bd E;refine Y8 (r:=AC) (i:=s) O O a6 a7 G6.1 U λc5 a8 c6=>AU ?_;refine BE (AU ?_);refine WF.nil (λaa ww A C=>?_);exact⟨(BC (s+1)),(upd Q s a2),_,_,A.sub (kp [12,11,3,2,1,13] O),C,a8,EX,(BH _),E⟩
  refine BB O (λaa ww A C=>?_);exact⟨Q,_,_,A.sub (kp [3,2,1] O),C,o,a1,E⟩
 rintro aa ww ⟨m,c7,c8,A,C,ah,c9,E⟩;refine AK ?_ A C;clear A C ww aa;rw[FJ] at E;refine AU ?_;obtain⟨q,c,rfl,da⟩:=ah.oolen mh;refine Dt (cs':=[vI b.B,(.slice q m.length c),v5,v7,v9,K,J]) O O O O Rq.1 O ah (.tail (.tail .head)) O O λdb F dc=>AU ?_;refine Bv (AU ?_);have bu:=k6.nw;refine CQ E O O O QR O F (λV a9=>Dp (St.all _) (bu.mono F.ea.1 F.ea.2) a9) λV E dd de df b2 dg bv p=>?_;have ba:=p;have W:=F.join bv ba ⟨OS.flat (λ{_ _ _ _ _ _} k=>k),trivial⟩;simp only[Abw,Abj] at W;refine AU ?_;obtain⟨G,d,rfl,dh⟩:=W.oslen mh;refine Dt (cs':=[vI b.B,(.slice q m.length c),(.slice G V.length d),v7,v9,K,J]) O O O O G6.1 O W (.tail (.tail (.tail .head))) O O λdi H dj=>AU ?_;refine Bv (AU ?_);have bw:=bk.nw;refine CQ E O O O sU O H (λaf bb=>IL (St.all _) (bw.mono H.ea.1 H.ea.2) bb) λaf E dk dl b3 bx b4 bc p=>?_;have am:=p;have t:=H.join bc am ⟨OS.flat (λ{_ _ _ _ _ _} k=>k),trivial⟩;simp only[Abw,Abj] at t;refine AU ?_;obtain⟨u,g,rfl,b5⟩:=t.oslen mh;refine Dt (cs':=[vI b.B,(.slice q m.length c),(.slice G V.length d),v7,(.slice u af.length g),K,J]) O O O O mF.1 O t (.tail (.tail (.tail (.tail .head)))) O O λb6 j b7=>AU ?_;refine Bv (AU ?_);have be:=bl.nw;refine CQ E O O O QR O j (λX an=>Dp (St.all _) (be.mono j.ea.1 j.ea.2) an) λX E b8 b9 ca bz cb bf p=>?_;have ao:=p;have x:=j.join bf ao ⟨OS.flat (λ{_ _ _ _ _ _} k=>k),trivial⟩;simp only[Abw,Abj] at x;refine AU ?_;obtain⟨Y,I,rfl,cc⟩:=x.oslen mh;refine Dt (cs':=[vI b.B,(.slice q m.length c),(.slice G V.length d),v7,(.slice u af.length g),(.slice Y X.length I),J]) O O O O G6.1 O x (.tail (.tail (.tail (.tail (.tail .head))))) O O λcd l ce=>AU ?_;refine Bv (AU ?_);have bg:=bm.nw;refine CQ E O O O QR O l (λai ap=>Dp (St.all _) (bg.mono l.ea.1 l.ea.2) ap) λai E cf cg ch b0 ci bh p=>?_;have aq:=p;have y:=l.join bh aq ⟨OS.flat (λ{_ _ _ _ _ _} k=>k),trivial⟩;simp only[Abw,Abj] at y;refine AU ?_;obtain⟨ar,ag,rfl,cj⟩:=y.oslen mh;refine Dt (cs':=[vI b.B,(.slice q m.length c),(.slice G V.length d),v7,(.slice u af.length g),(.slice Y X.length I),(.slice ar ai.length ag)]) O O O O G6.1 O y (.tail (.tail (.tail (.tail (.tail (.tail .head)))))) O O λck au cl=>AU ?_;have bi:=k8.nw;refine DL O O O ON Ho.1 O au (.tail (.tail (.tail (.tail (.tail .head))))) O λcm av aj=>AU ?_;refine Bu (λaa ww A C=>?_);have Z:=av.sel [4,3,2,1,0,0] 1 O;have bj:=bi.mono' aj;have aw:=Z.drop (.tail (.tail (.tail (.tail (.tail .head)))));cases E;exact JA A O C (G7 (UC A C Z O (mt (mt (mt (mt (mt mh))))) Ho.1 O) I9) O ((((((bn.trans EX).trans EX).trans EX).trans EX).trans EX).trans aj) ⟨_,_,_,_,_,_,O,r2,bj,aw⟩
def HT (g:St S L h) {b:Int}(d:AB b) {a:Int}(c:AB a) {r:Bool}(E:Gj N b a=some r):
 B3 prog 158 #[vI b,vI a] S h (λv S' h'=>v= .bool r∧St S' (L) h'):=by
 refine BA 12 func158 O ntmps158 O λB=>?_;rw[Gj] at E;exact RT
def TM (hs:St S L h) {i:Value}{l:BO}(p:Rd S h B0 i l) {j:Value}{b:AT}(q:Rd S h BL j b) {c:Int}(y:AB c) {r:AT}(E:Ht N l b c=some r):
 B3 prog 159 #[i,j,vI c] S h (λv S' h'=>v= .agg #[vI r.V,vI r.X,.bool r.At,.bool r.Am]∧AT.ok r∧St S' (L) h'):=by
 refine BA 24 func159 O ntmps159 O λB=>?_;rw[Ht] at E;refine AU ?_;refine By O p CE O hs λq1 S2 h3 Q e5 k6=>?_;have k7:=q.mono e5;obtain⟨rfl,⟨r9,U⟩⟩:=BL.ex k7;refine OG O O O Q λs af D ag=>CF P9 O D λt u k ah=>AU ?_;refine AO (λa w=>∃(z:Bool) (A:Bool),IV B S2 u (24,[]) a w [(6,vP t 0),(4,vP s 0)] (Bx t 106 [vI 0,vI 0,.bool false,.bool false]::Bx s 106 [vI b.V,vI b.X,.bool z,.bool A]::L) λ_ _=>GF N b z A=some r) ?_ ?_
 ·refine AU ?_;refine AH O E (λW E=>?_) (λW E=>?_)
  ·refine AU ?_;refine Dt (cs':=[vI b.V,vI b.X,.bool true,.bool b.Am]) O O O O Qf.1 O k (.tail .head) O O λai F Y=>AU ?_;refine WF.nil (λm n d g=>?_);exact⟨true,b.Am,_,_,d.sub (kp [6,4] O),g,F,Y,E⟩
  refine AU ?_;refine AH O E (λZ E=>?_) (λZ E=>?_)
  ·refine AU ?_;refine Dt (cs':=[vI b.V,vI b.X,.bool false,.bool b.Am]) O O O O Qf.1 O k (.tail .head) O O λaj G ab=>AU ?_;refine WF.nil (λm n d g=>?_);exact⟨false,b.Am,_,_,d.sub (kp [6,4] O),g,G,ab,E⟩
  refine AU ?_;refine HI (λa w=>∃(C:Bool),IV B S2 u (24,[]) a w [(6,vP t 0),(4,vP s 0),(3,q1),(2,vI c),(14,.bool C)] (Bx t 106 [vI 0,vI 0,.bool false,.bool false]::Bx s 106 [vI b.V,vI b.X,.bool b.At,.bool b.Am]::L) λ_ _=>G1 N l b c (GF N b) C=some r) ?_ ?_
  ·refine AH O E (λac E=>?_) (λac E=>?_)
   ·refine AU ?_;refine WF.nil (λm n d g=>?_);exact⟨(decide (c=2)),_,_,d.sub (kp [6,4,3,2,14] O),g,k,(B9.refl S2 u),E⟩
   refine AU ?_;refine WF.nil (λm n d g=>?_);exact⟨(decide (c=3)),_,_,d.sub (kp [6,4,3,2,14] O),g,k,(B9.refl S2 u),E⟩
  rintro m n ⟨C,ak,am,d,g,o,H,E⟩;refine AK ?_ d g;clear d g n m;rw[G1] at E;refine AH O E (λad E=>?_) (λad E=>?_)
  ·have an:=k6.nw;refine AU ?_;refine AH O E (λae E=>?_) (λae E=>?_)
   ·refine AU ?_;refine Dt (cs':=[vI b.V,vI b.X,.bool b.At,.bool (decide (c=2))]) O O O O Qf.1 O o (.tail .head) O O λao I ap=>AU ?_;refine WF.nil (λm n d g=>?_);exact⟨b.At,(decide (c=2)),_,_,d.sub (kp [6,4] O),g,I,EX,E⟩
   refine AU ?_;refine WF.nil (λm n d g=>?_);exact⟨b.At,b.Am,_,_,d.sub (kp [6,4] O),g,o,H,E⟩
  refine AU ?_;refine WF.nil (λm n d g=>?_);exact⟨b.At,b.Am,_,_,d.sub (kp [6,4] O),g,o,H,E⟩
 rintro m n ⟨z,A,aq,ar,d,g,J,au,E⟩;refine AK ?_ d g;clear d g n m;rw[GF] at E;refine AU ?_;refine C7 O O O O Hs.1 O J .head O λav K aw=>AU ?_;refine Bu (λm n d g=>?_);have x:=K.drop (.tail .head);have M:=x.drop .head;cases E;exact JA d O g (G7 (UC d g x O mh Hs.1 O) I9) O EX ⟨O,⟨r9,U⟩,M⟩
def KR (l:St S L h) {c:Int}(i:AB c) {b:Int}(g:AB b) {a:Int}(d:AB a) {r:Int}(E:Hz N c b a=some r):
 B3 prog 205 #[vI c,vI b,vI a] S h (λv S' h'=>v=vI r∧AB r∧St S' (L) h'):=by
 refine BA 16 func205 O ntmps205 O λB=>?_;rw[Hz] at E;refine AU ?_;refine AH O E (λj E=>?_) (λj E=>?_)
 ·exact RT
 refine AU ?_;refine AH O E (λk E=>?_) (λk E=>?_)
 ·exact RT
 exact RT
def VD (hs:St S L h) {g:Value}{s:BO}(k:Rd S h B0 g s) {j:Value}{b:AT}(l:Rd S h BL j b) {c:Int}(d:AB c) {r:AT}(E:JD N s b c=some r):
 B3 prog 142 #[g,j,vI c] S h (λv S' h'=>v= .agg #[vI r.V,vI r.X,.bool r.At,.bool r.Am]∧AT.ok r∧St S' (L) h'):=by
 refine BA 16 func142 O ntmps142 O λB=>?_;rw[JD] at E;refine AU ?_;refine By O k CE O hs λq1 S2 h3 Q e5 k6=>?_;have k7:=l.mono e5;obtain⟨rfl,⟨r9,U⟩⟩:=BL.ex k7;refine OG O O O Q λy af z ag=>CF P9 O z λA C t ah=>?_;have W:=k6.nw;refine AU ?_;refine HI (λa w=>∃(m:Int),IV B S2 C (16,[]) a w [(6,vP A 0),(4,vP y 0)] (Bx A 106 [vI 0,vI 0,.bool false,.bool false]::Bx y 106 [vI b.V,vI m,.bool b.At,.bool b.Am]::L) λ_ _=>AB m∧Lh N b m=some r) ?_ ?_
 ·refine AH O E (λY E=>?_) (λY E=>?_)
  ·refine Bv ?_;have Z:=W.fl Fp;have ab:=Z.i;refine AU ?_;refine CQ E O O O VK O t (λx D=>KR (St.all _) d (iq (n:=0) O) ab D) λx E ai aj ak F am an p=>?_;obtain⟨rfl,ac,ae⟩:=p;refine AU ?_;refine Dt (cs':=[vI b.V,vI x,.bool b.At,.bool b.Am]) O O O O HA.1 O F (.tail .head) O O λao G ap=>AU ?_;refine WF.nil (λK M o q=>?_);exact⟨x,_,_,o.sub (kp [6,4] O),q,G,EX,ac,E⟩
  refine AU ?_;refine WF.nil (λK M o q=>?_);exact⟨b.X,_,_,o.sub (kp [6,4] O),q,t,(B9.refl S2 C),U,E⟩
 rintro K M ⟨m,aq,ar,o,q,H,au,ad,E⟩;refine AK ?_ o q;clear o q M K;rw[Lh] at E;refine AU ?_;refine C7 O O O O Hs.1 O H .head O λav I aw=>AU ?_;refine Bu (λK M o q=>?_);have u:=I.drop (.tail .head);have J:=u.drop .head;cases E;exact JA o O q (G7 (UC o q u O mh Hs.1 O) I9) O EX ⟨O,⟨r9,ad⟩,J⟩
def JT (j:St S L h) {a:Int}(c:AB a) {b:Int}(d:AB b) {r:Int}(E:GY N a b=some r):
 B3 prog 111 #[vI a,vI b] S h (λv S' h'=>v=vI r∧AB r∧St S' (L) h'):=by
 refine BA 24 func111 O ntmps111 O λB=>?_;rw[GY] at E;refine AU ?_;refine AH O E (λg E=>?_) (λg E=>?_)
 ·exact RT
 refine AU ?_;refine AH O E (λi E=>?_) (λi E=>?_)
 ·exact RT
 exact RT
def H1 (j:St S L h) {a:Int}(c:AB a) {b:Int}(d:AB b) {r:Int}(E:Fm N a b=some r):
 B3 prog 70 #[vI a,vI b] S h (λv S' h'=>v=vI r∧AB r∧St S' (L) h'):=by
 refine BA 24 func70 O ntmps70 O λB=>?_;rw[Fm] at E;refine AU ?_;refine AH O E (λg E=>?_) (λg E=>?_)
 ·exact RT
 refine AU ?_;refine AH O E (λi E=>?_) (λi E=>?_)
 ·exact RT
 exact RT
def T0 (hs:St S L h) {b:Value}{j:BO}(d:Rd S h B0 b j) {c:Value}{a:AT}(g:Rd S h BL c a) {r:AT}(E:Hy N j a=some r):
 B3 prog 160 #[b,c] S h (λv S' h'=>v= .agg #[vI r.V,vI r.X,.bool r.At,.bool r.Am]∧AT.ok r∧St S' (L) h'):=by
 refine BA 26 func160 O ntmps160 O λB=>?_;rw[Hy] at E;refine AU ?_;refine By O d CE O hs λq1 S2 h3 M e5 k6=>?_;have k7:=g.mono e5;obtain⟨rfl,⟨Q,q⟩⟩:=BL.ex k7;refine OG O O O M λao ap s aq=>CF P9 O s λar au k av=>AU ?_;refine AH O E (λU E=>?_) (λU E=>?_)
 ·refine AU ?_;refine C7 O O O O Hs.1 O k .head O λaw t ax=>AU ?_;refine Bu (λaa ww u w=>?_);have l:=t.drop (.tail .head);have x:=l.drop .head;cases E;exact JA u O w (G7 (UC u w l O mh Hs.1 O) I9) O EX ⟨O,⟨Q,q⟩,x⟩
 refine AU ?_;refine BY (.inr ⟨mo,by kernel_rfl⟩) k (AU ?_);refine B7 E O O O Rg O (λW y h' o=>JT (St.all h') q Q y) λW E Y=>?_;have Z:=Y;have z:=k6.nw;have ab:=z.fl KO;have ac:=ab.i;refine AU ?_;refine B7 E O O O Rg O (λad A h' o=>JT (St.all h') (iq (n:=0) O) ac A) λad E ae=>?_;have af:=ae;have ag:=z.fl KO;have ah:=ag.i;refine AU ?_;refine B7 E O O O VK O (λai C h' o=>KR (St.all h') Z af ah C) λai E aj=>?_;have ak:=aj;refine AU ?_;refine BJ (kp [5,4,3] O) λay D az=>AU ?_;refine Bv (AU ?_);refine CQ E O O O R6 O D (λF G=>H1 (St.all _) Q ak G) λF E a0 a1 a2 H a3 a4 p=>?_;obtain⟨rfl,am,an⟩:=p;refine AU ?_;refine Dt (cs':=[vI F,vI a.X,.bool a.At,.bool a.Am]) O O O O HA.1 O H (.tail .head) O O λa5 I a6=>AU ?_;refine C7 O O O O Hs.1 O I .head O λa7 J a8=>AU ?_;refine Bu (λaa ww u w=>?_);have m:=J.drop (.tail .head);have K:=m.drop .head;cases E;exact JA u O w (G7 (UC u w m O mh Hs.1 O) I9) O EX ⟨O,⟨am,q⟩,K⟩
def Pp {y:Nat}{p0_w:AN}{U:Value}{V:Value}{K:Value}{W:Value}{X:Value}{Y:Value}{Z:Value}{ab:Value}{z:Value}{t:Value}{u:Value}{C:Value}{H:Value}{c:Value}{d:Value}{I:Value}{q:Value}{g:Value}{j:Value}{k:Value}{m:Value}{p:Value}(hs:St S (Bx y 160 [.string p0_w.b.J,U,vI p0_w.b.P,V,K,W,X,Y,Z,ab,vI p0_w.b.Q,z,t,u,C,H,vI p0_w.s.B,c,d,I,q,g,j,k,m,p]::OO AC 3 29 c p0_w.s.D::OS AC 3 d p0_w.s.M::OS BL 106 q p0_w.s.O::OS AC 3 g p0_w.s.N::OS AC 3 j p0_w.s.L::OS BD 74 k p0_w.moves::OS AC 3 m p0_w.peaks::OS AS 121 p p0_w.sent::L) h) (b4:p0_w.b.J.size≤maxLen) (b5:Sl S h A4.str U p0_w.b.F) (b6:AB p0_w.b.P) (b7:Sl S h CC V p0_w.b.A) (ac:Sl S h B0 K p0_w.b.G) (b8:Sl S h Hb W p0_w.b.Ac) (b9:Sl S h Er X p0_w.b.Af) (ca:Sl S h G4 Y p0_w.b.Ag) (cb:Sl S h DI Z p0_w.b.Aj) (cc:Sl S h AC ab p0_w.b.Al) (a2:AB p0_w.b.Q) (a3:Sl S h AC z p0_w.in_.Aa) (ai:Sl S h Gt t p0_w.in_.Ai) (aj:Sl S h J6 u p0_w.in_.Ak) (a4:Sl S h Gs C p0_w.in_.Ab) (a5:Sl S h HJ H p0_w.in_.Ae) (a6:AB p0_w.s.B) (a7:Sl S h AS I p0_w.s.E) {r:(List AT)}(E:Gk N p0_w=some r):
 B3 prog 79 #[vP y 0] S h (λv S' h'=>∃an:Value,v= .tuple #[]∧St S' (Bx y 160 [.string p0_w.b.J,U,vI p0_w.b.P,V,K,W,X,Y,Z,ab,vI p0_w.b.Q,z,t,u,C,H,vI p0_w.s.B,c,d,I,an,g,j,k,m,p]::OO AC 3 29 c p0_w.s.D::OS AC 3 d p0_w.s.M::OS BL 106 an r::OS AC 3 g p0_w.s.N::OS AC 3 j p0_w.s.L::OS BD 74 k p0_w.moves::OS AC 3 m p0_w.peaks::OS AS 121 p p0_w.sent::L) h'):=by
 refine BA 135 func79 O ntmps79 O λB=>?_;rw[Gk] at E;refine AU ?_;refine AO (λa w=>∃(l2:List AT),IV B S h (135,[]) a w [(0,vP y 0)] (Bx y 160 [.string p0_w.b.J,U,vI p0_w.b.P,V,K,W,X,Y,Z,ab,vI p0_w.b.Q,z,t,u,C,H,vI p0_w.s.B,c,d,I,q,g,j,k,m,p]::OO AC 3 29 c p0_w.s.D::OS AC 3 d p0_w.s.M::OS BL 106 q l2::OS AC 3 g p0_w.s.N::OS AC 3 j p0_w.s.L::OS BD 74 k p0_w.moves::OS AC 3 m p0_w.peaks::OS AS 121 p p0_w.sent::L) λ_ _=>Cz N p0_w l2=some r) ?_ ?_
 ·refine AX (λn1=>λa w=>∃(i6:Int) (l8:List AT),IV B S h (135,[]) a w [(13,vI (↑p0_w.in_.Ai.length:Int)),(12,t),(0,vP y 0),(14,vI i6)] (Bx y 160 [.string p0_w.b.J,U,vI p0_w.b.P,V,K,W,X,Y,Z,ab,vI p0_w.b.Q,z,t,u,C,H,vI p0_w.s.B,c,d,I,q,g,j,k,m,p]::OO AC 3 29 c p0_w.s.D::OS AC 3 d p0_w.s.M::OS BL 106 q l8::OS AC 3 g p0_w.s.N::OS AC 3 j p0_w.s.L::OS BD 74 k p0_w.moves::OS AC 3 m p0_w.peaks::OS AS 121 p p0_w.sent::L) λ_ _=>AB i6∧Ce N p0_w (Cz N p0_w) n1 i6 l8=some r) N ?_ ?_ ?_
  ·intro aa ww hf hw;exact⟨0,p0_w.s.O,_,_,hf.sub (kp [13,12,0,14] O),hw,hs,(B9.refl S h),(iq (n:=0) O),E⟩
  ·rintro aa ww ⟨_,_,_,_,_,_,_,_,_,E⟩;rw[Ce] at E;cases E
  rintro n1 aa ww ⟨i6,l8,S9,du,hf,hw,aw,cd,r7,E⟩;refine AK ?_ hf hw;clear hf hw ww aa;rw[Ce] at E;refine AU ?_;refine AH O E (λdv E=>?_) (λdv E=>?_)
  ·refine AU ?_;refine AO (λa w=>∃(ar:List AT),IV B S9 du (135,[]) a w [(13,vI (↑p0_w.in_.Ai.length:Int)),(12,t),(0,vP y 0),(14,vI i6)] (Bx y 160 [.string p0_w.b.J,U,vI p0_w.b.P,V,K,W,X,Y,Z,ab,vI p0_w.b.Q,z,t,u,C,H,vI p0_w.s.B,c,d,I,q,g,j,k,m,p]::OO AC 3 29 c p0_w.s.D::OS AC 3 d p0_w.s.M::OS BL 106 q ar::OS AC 3 g p0_w.s.N::OS AC 3 j p0_w.s.L::OS BD 74 k p0_w.moves::OS AC 3 m p0_w.peaks::OS AS 121 p p0_w.sent::L) λ_ _=>GQ N i6 (Ce N p0_w (Cz N p0_w) n1) ar=some r) ?_ ?_
   ·refine AU ?_;have dw:=ai.mono' cd;refine A6 E O O dw vK.1 O λce E gh dx=>?_;obtain⟨gi,_,dy⟩:=dx.lv;refine AU ?_;refine CF oB O aw λgj gl cf dz=>?_;have d0:=dy.mono dz;obtain⟨rfl,⟨d1,d2⟩⟩:=Gt.ex d0;refine C7 O O O O oR.1 O cf .head O λgm cg gn=>AU ?_;refine BY (.inr ⟨mo,by kernel_rfl⟩) cg ?_;have d3:=ac.nw;have d4:=d3.le;refine AU ?_;refine A8 E O O O PH O (λd5 ch h' o=>HT (St.all h') d2 (KZ d4) ch) λd5 E=>BJ (kp [26,3,13,12,0,14] O) λgp af gq=>AH O E (λd6 E=>?_) (λd6 E=>?_)
    ·refine MA 29 mo (by kernel_rfl) O af (AU ?_);have d7:=ac.nw;refine A6 E O O d7 Ox.1 O λgr E gs d8=>?_;obtain⟨gt,_,d9⟩:=d8.lv;refine AU ?_;obtain⟨gu,ci,E⟩:=bd E;refine BS af (mt (mt (mt (mt mh)))) O O NZ.1 ci O λgv cj=>?_;obtain⟨gw,ck,E⟩:=bd E;have ea:=af.epAt (mt (mt (mt (mt mh)))) ck F9.id cj;refine P4 PF (λ_ x=>x) O ea Hs.1 CE O λgx eb=>AU ?_;refine B7 E O O O sT O (λa8 cl h' o=>TM (St.all h') (d9.mono (o.all af.1)) (eb.mono (o.all af.1)) d1 cl) λa8 E ec=>?_;obtain⟨ed,ee⟩:=ec;obtain⟨gy,cm,E⟩:=bd E;refine BS af (mt (mt (mt (mt mh)))) O O NZ.1 cm O λgz cn=>KT λg0 co g1=>?_;obtain⟨ef,cp,E⟩:=bd E;refine E9 (r:=BL) (l:=l8) (i:=ce.As) (x:=ef) O O (BL.mk (x:=a8) ⟨ed,ee⟩) cn cp NT.id Hs.1 CE co (.tail (.tail (.tail (.tail .head)))) λg2 cq g3=>AU ?_;refine WF.nil (λaa ww hf hw=>?_);have cr:=cq.sel [1,1,1,1,1,1,1,1,1] 1 O;exact⟨(upd l8 ce.As a8),_,_,hf.sub (kp [13,12,0,14] O),hw,cr,EX,E⟩
    refine AU ?_;refine WF.nil (λaa ww hf hw=>?_);have cs:=af.sel [1,1,1,1,1,1,1,1,1] 1 O;exact⟨l8,_,_,hf.sub (kp [13,12,0,14] O),hw,cs,EX,E⟩
   rintro aa ww ⟨ar,g4,g5,hf,hw,ct,g6,E⟩;refine AK ?_ hf hw;clear hf hw ww aa;rw[GQ] at E;refine AU ?_;refine WF.nil (λaa ww hf hw=>?_);exact⟨(BC (i6+1)),ar,_,_,hf.sub (kp [13,12,0,14] O),hw,ct,EX,(BH _),E⟩
  refine BB O (λaa ww hf hw=>?_);exact⟨l8,_,_,hf.sub (kp [0] O),hw,aw,cd,E⟩
 rintro aa ww ⟨l2,a9,ba,hf,hw,cu,eg,E⟩;refine AK ?_ hf hw;clear hf hw ww aa;rw[Cz] at E;have eh:=aj.mono' eg;refine AU ?_;refine AO (λa w=>∃(au:List AT),IV B a9 ba (135,[]) a w [(0,vP y 0)] (Bx y 160 [.string p0_w.b.J,U,vI p0_w.b.P,V,K,W,X,Y,Z,ab,vI p0_w.b.Q,z,t,u,C,H,vI p0_w.s.B,c,d,I,q,g,j,k,m,p]::OO AC 3 29 c p0_w.s.D::OS AC 3 d p0_w.s.M::OS BL 106 q au::OS AC 3 g p0_w.s.N::OS AC 3 j p0_w.s.L::OS BD 74 k p0_w.moves::OS AC 3 m p0_w.peaks::OS AS 121 p p0_w.sent::L) λ_ _=>Cy N p0_w au=some r) ?_ ?_
 ·refine AX (λn4=>λa w=>∃(ak:Int) (am:List AT),IV B a9 ba (135,[]) a w [(62,vI (↑p0_w.in_.Ak.length:Int)),(61,u),(0,vP y 0),(63,vI ak)] (Bx y 160 [.string p0_w.b.J,U,vI p0_w.b.P,V,K,W,X,Y,Z,ab,vI p0_w.b.Q,z,t,u,C,H,vI p0_w.s.B,c,d,I,q,g,j,k,m,p]::OO AC 3 29 c p0_w.s.D::OS AC 3 d p0_w.s.M::OS BL 106 q am::OS AC 3 g p0_w.s.N::OS AC 3 j p0_w.s.L::OS BD 74 k p0_w.moves::OS AC 3 m p0_w.peaks::OS AS 121 p p0_w.sent::L) λ_ _=>AB ak∧Cd N p0_w (Cy N p0_w) n4 ak am=some r) N ?_ ?_ ?_
  ·intro aa ww hf hw;exact⟨0,l2,_,_,hf.sub (kp [62,61,0,63] O),hw,cu,(B9.refl a9 ba),(iq (n:=0) O),E⟩
  ·rintro aa ww ⟨_,_,_,_,_,_,_,_,_,E⟩;rw[Cd] at E;cases E
  rintro n4 aa ww ⟨ak,am,ei,ej,hf,hw,ax,cv,g7,E⟩;refine AK ?_ hf hw;clear hf hw ww aa;rw[Cd] at E;refine AU ?_;refine AH O E (λek E=>?_) (λek E=>?_)
  ·refine AU ?_;refine AO (λa w=>∃(av:List AT),IV B ei ej (135,[]) a w [(62,vI (↑p0_w.in_.Ak.length:Int)),(61,u),(0,vP y 0),(63,vI ak)] (Bx y 160 [.string p0_w.b.J,U,vI p0_w.b.P,V,K,W,X,Y,Z,ab,vI p0_w.b.Q,z,t,u,C,H,vI p0_w.s.B,c,d,I,q,g,j,k,m,p]::OO AC 3 29 c p0_w.s.D::OS AC 3 d p0_w.s.M::OS BL 106 q av::OS AC 3 g p0_w.s.N::OS AC 3 j p0_w.s.L::OS BD 74 k p0_w.moves::OS AC 3 m p0_w.peaks::OS AS 121 p p0_w.sent::L) λ_ _=>GP N ak (Cd N p0_w (Cy N p0_w) n4) av=some r) ?_ ?_
   ·refine AU ?_;have el:=eh.mono' cv;refine A6 E O O el vH.1 O λcw E g8 em=>?_;obtain⟨en,_,cx⟩:=em.lv;refine AU ?_;refine CF oC O ax λeo ep bb cy=>?_;have cz:=cx.mono cy;obtain⟨rfl,⟨c0,c1⟩⟩:=J6.ex cz;refine C7 O O O O oS.1 O bb .head O λeq bc er=>AU ?_;refine BY (.inr ⟨mo,by kernel_rfl⟩) bc ?_;have c2:=ac.nw;have c3:=c2.le;refine AU ?_;refine A8 E O O O PH O (λc4 be h' o=>HT (St.all h') c0 (KZ c3) be) λc4 E=>BJ (kp [75,5,62,61,0,63] O) λes ad eu=>AH O E (λc5 E=>?_) (λc5 E=>?_)
    ·refine MA 29 mo (by kernel_rfl) O ad (AU ?_);have c6:=ac.nw;refine A6 E O O c6 Ox.1 O λev E ew c7=>?_;obtain⟨ey,_,c8⟩:=c7.lv;refine AU ?_;obtain⟨ez,bf,E⟩:=bd E;refine BS ad (mt (mt (mt (mt mh)))) O O NZ.1 bf O λe0 bg=>?_;obtain⟨e1,bh,E⟩:=bd E;have c9:=ad.epAt (mt (mt (mt (mt mh)))) bh F9.id bg;refine P4 PF (λ_ x=>x) O c9 Hs.1 CE O λe2 da=>AU ?_;refine B7 E O O O sW O (λap bi h' o=>VD (St.all h') (c8.mono (o.all ad.1)) (da.mono (o.all ad.1)) c1 bi) λap E db=>?_;obtain⟨dc,dd⟩:=db;obtain⟨e3,bj,E⟩:=bd E;refine BS ad (mt (mt (mt (mt mh)))) O O NZ.1 bj O λe4 bk=>KT λe5 bl e6=>?_;obtain⟨de,bm,E⟩:=bd E;refine E9 (r:=BL) (l:=am) (i:=cw.As) (x:=de) O O (BL.mk (x:=ap) ⟨dc,dd⟩) bk bm NT.id Hs.1 CE bl (.tail (.tail (.tail (.tail .head)))) λe7 bn e8=>AU ?_;refine WF.nil (λaa ww hf hw=>?_);have bo:=bn.sel [1,1,1,1,1,1,1,1,1] 1 O;exact⟨(upd am cw.As ap),_,_,hf.sub (kp [62,61,0,63] O),hw,bo,EX,E⟩
    refine AU ?_;refine WF.nil (λaa ww hf hw=>?_);have bp:=ad.sel [1,1,1,1,1,1,1,1,1] 1 O;exact⟨am,_,_,hf.sub (kp [62,61,0,63] O),hw,bp,EX,E⟩
   rintro aa ww ⟨av,e9,fa,hf,hw,bq,fb,E⟩;refine AK ?_ hf hw;clear hf hw ww aa;rw[GP] at E;refine AU ?_;refine WF.nil (λaa ww hf hw=>?_);exact⟨(BC (ak+1)),av,_,_,hf.sub (kp [62,61,0,63] O),hw,bq,EX,(BH _),E⟩
  refine BB O (λaa ww hf hw=>?_);exact⟨am,_,_,hf.sub (kp [0] O),hw,ax,cv,E⟩
 rintro aa ww ⟨au,ay,az,hf,hw,br,fc,E⟩;refine AK ?_ hf hw;clear hf hw ww aa;rw[Cy] at E;have df:=ac.nw;refine AU ?_;refine AY (AX (λn6=>λa w=>∃(ag:Int) (ah:List AT),IV B ay az (135,[]) a w [(111,vI (↑p0_w.b.G.length:Int)),(110,K),(0,vP y 0),(112,vI ag)] (Bx y 160 [.string p0_w.b.J,U,vI p0_w.b.P,V,K,W,X,Y,Z,ab,vI p0_w.b.Q,z,t,u,C,H,vI p0_w.s.B,c,d,I,q,g,j,k,m,p]::OO AC 3 29 c p0_w.s.D::OS AC 3 d p0_w.s.M::OS BL 106 q ah::OS AC 3 g p0_w.s.N::OS AC 3 j p0_w.s.L::OS BD 74 k p0_w.moves::OS AC 3 m p0_w.peaks::OS AS 121 p p0_w.sent::L) λ_ _=>AB ag∧DF N p0_w n6 ag ah=some r) N ?_ ?_ ?_)
 ·intro aa ww hf hw;exact⟨0,au,_,_,hf.sub (kp [111,110,0,112] O),hw,br,(B9.refl ay az),(iq (n:=0) O),E⟩
 ·rintro aa ww ⟨_,_,_,_,_,_,_,_,_,E⟩;rw[DF] at E;cases E
 rintro n6 aa ww ⟨ag,ah,fd,fe,hf,hw,aq,dg,ff,E⟩;refine AK ?_ hf hw;clear hf hw ww aa;rw[DF] at E;refine AU ?_;refine AH O E (λdh E=>?_) (λdh E=>?_)
 ·refine AU ?_;refine AY (AU ?_);have di:=df.mono' dg;refine A6 E O O di Ox.1 O λfg E fh dj=>?_;obtain⟨fi,_,dk⟩:=dj.lv;refine AU ?_;refine CF Ok O aq λfj fk bs dl=>AU ?_;have a0:=dk.mono dl;obtain⟨fl,fm,fn,rfl,fo,fp,fq,fr,fs,ft,fu,fv,fw,fx,fy,fz,f0,f1,f2,f3,f4,f5⟩:=B0.ex a0;refine DL O O O ON Ou.1 O bs .head O λf6 ae dm=>AU ?_;refine MA 17 mo (by kernel_rfl) O ae (AU ?_);obtain⟨f7,bt,E⟩:=bd E;refine BS ae (mt (mt (mt (mt mh)))) O O NZ.1 bt O λf8 bu=>?_;obtain⟨f9,bv,E⟩:=bd E;have dn:=ae.epAt (mt (mt (mt (mt mh)))) bv F9.id bu;refine P4 PF (λ_ x=>x) O dn Hs.1 CE O λga dp=>?_;have ao:=a0.mono dm;obtain⟨a1,bw,E⟩:=bd E;refine QZ O O O sS O (λh' o=>T0 (St.all h') (ao.mono (o.all ae.1)) (dp.mono (o.all ae.1)) bw) λdq=>?_;obtain⟨dr,ds⟩:=dq;obtain⟨gb,bx,E⟩:=bd E;refine BS ae (mt (mt (mt (mt mh)))) O O NZ.1 bx O λgc bz=>KT λgd b0 ge=>?_;obtain⟨dt,b1,E⟩:=bd E;refine E9 (r:=BL) (l:=ah) (i:=ag) (x:=dt) O O (BL.mk (x:=a1) ⟨dr,ds⟩) bz b1 NT.id Hs.1 CE b0 (.tail (.tail (.tail (.tail .head)))) λgf b2 gg=>AU ?_;refine BE (AU ?_);refine WF.nil (λaa ww hf hw=>?_);have b3:=b2.sel [1,1,1,1,1,1,1,1,1] 1 O;exact⟨(BC (ag+1)),(upd ah ag a1),_,_,hf.sub (kp [111,110,0,112] O),hw,b3,EX,(BH _),E⟩
 refine KN O (WF.nil (λaa ww hf hw=>?_));cases E;exact JA hf O hw I9 O EX ⟨_,O,aq⟩
def Qq (s:St S L h) {c:Value}{g:(List Int)}(d:Sl S h AC c g) {a:Int}(j:AB a) {r:Int}(E:Kc N g a=some r):
 B3 prog 213 #[c,vI a] S h (λv S' h'=>v=vI r∧AB r∧St S' (L) h'):=by
 refine BA 24 func213 O ntmps213 O λB=>?_;rw[Kc] at E;refine AU ?_;obtain⟨m,b,E⟩:=bd E;refine AZ 6 19 (.bool m) ?_ ?_
 ·cases l:((decide (a<0))||(decide ((↑g.length:Int)≤a)))
  ·have b:=G3 l b;refine AU ?_;refine A6 b O O d Ct.1 O λt b u w=>AU ?_;cases b;exact A0 O
  have b:=G2 l b;cases b;exact BG O O
 refine AU ?_;refine AH O E (λn E=>?_) (λn E=>?_)
 ·exact RT
 refine AU ?_;refine A6 E O O d Ct.1 O λo E p k=>?_;have q:=k.i;exact RT
def Tv (hs:St S L h) {n:Value}{c:(List Int)}(j:Sl S h AC n c) {b:Int}(m:AB b) {d:Int}(F:AB d) {g:Int}(s:AB g) {r:(List Int)}(E:Lu N c b d g=some r):
 B3 prog 161 #[n,vI b,vI d,vI g] S h (λv S' h'=>St S' (OS AC 3 v r::L) h'):=by
 refine BA 56 func161 O ntmps161 O λB=>?_;rw[Lu] at E;refine AU ?_;obtain⟨ag,E⟩:=LQ E;refine J9 (r:=AC) (zx:=0) HZ O ⟨O,by unfold AB;omega⟩ O O ag O O hs λv3 h4 ah e6=>AU ?_;have k7:=j.mono' e6;refine Vb (r:=AC) (l:=(List.replicate ((↑c.length:Int):Int).toNat (0:Int))) (xs:=c) O O Ct.1 (Sl.src k7) O ah .head λh8 G av=>AU ?_;refine BY (.inl O) G (AU ?_);have ai:=j.nw;refine B7 E O O O fJ O (λt H h' o=>Qq (St.all h') (ai.mono' (o.all G.1)) m H) λt E aj=>?_;have ak:=aj;refine Xc O O O (AU ?_);refine BJ (kp [10,9,0,1,2] O) λI k aw=>?_;have ax:=j.nw;refine AU ?_;refine HI (λa w=>∃(y:List Int),IV B S I (56,[]) a w [(9,v3)] (OS AC 3 v3 y::L) λ_ _=>Kw N y=some r) ?_ ?_
 ·refine AH O E (λal E=>?_) (λal E=>?_)
  ·refine AU ?_;obtain⟨ay,J,E⟩:=bd E;refine BS k mh O O Ct.1 J O λaz K=>?_;obtain⟨z,M,E⟩:=bd E;have am:=k.epAt mh M F9.id K;refine Gf LD (λ_ x=>x) O am HA.1 O λa0=>AU ?_;obtain⟨a1,Q,E⟩:=bd E;refine BS k mh O O Ct.1 Q O λa2 U=>AU ?_;obtain⟨an,V,E⟩:=bd E;refine E9 (r:=AC) (l:=(Pj (List.replicate ((↑c.length:Int):Int).toNat (0:Int)) c)) (i:=b) (x:=an) O O (⟨_,O,O,(BH _)⟩:Rd _ _ AC _ (BC (z-(min g t)))) U V NT.id HA.1 (λ_=>rfl) k .head λa3 q a4=>AU ?_;refine Bv (AU ?_);obtain⟨a5,W,E⟩:=bd E;refine BS q mh O O Ct.1 W O λa6 X=>?_;obtain⟨a7,Y,E⟩:=bd E;have ao:=q.epAt mh Y F9.id X;refine Gf LD (λ_ x=>x) O ao HA.1 O λap=>AU ?_;refine CQ E O O O R6 O q (λA Z=>H1 (St.all _) ap (Ni s ak) Z) λA E a8 a9 ba u bb bc p=>?_;obtain⟨rfl,aq,au⟩:=p;refine AU ?_;obtain⟨be,ab,E⟩:=bd E;refine BS u mh O O Ct.1 ab O λbf ac=>AU ?_;obtain⟨ar,ad,E⟩:=bd E;refine E9 (r:=AC) (l:=(upd (Pj (List.replicate ((↑c.length:Int):Int).toNat (0:Int)) c) b (BC (z-(min g t))))) (i:=d) (x:=ar) O O (⟨_,O,O,aq⟩:Rd _ _ AC _ A) ac ad NT.id HA.1 (λ_=>rfl) u .head λbg ae bh=>AU ?_;refine WF.nil (λaa ww C D=>?_);exact⟨(upd (upd (Pj (List.replicate ((↑c.length:Int):Int).toNat (0:Int)) c) b (BC (z-(min g t)))) d A),_,_,C.sub (kp [9] O),D,ae,EX,E⟩
  refine AU ?_;refine WF.nil (λaa ww C D=>?_);exact⟨(Pj (List.replicate ((↑c.length:Int):Int).toNat (0:Int)) c),_,_,C.sub (kp [9] O),D,k,(B9.refl S I),E⟩
 rintro aa ww ⟨y,bi,bj,C,D,af,bk,E⟩;refine AK ?_ C D;clear C D ww aa;rw[Kw] at E;refine AU ?_;cases E;exact Kk af O O EX
end Go.Proofs.YtedgiljmffngoaaGreat
