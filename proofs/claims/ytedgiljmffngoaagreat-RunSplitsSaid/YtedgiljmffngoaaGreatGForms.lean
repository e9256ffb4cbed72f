import Derived.Test.YtedgiljmffngoaaGreatGInst
import Derived.Test.YtedgiljmffngoaaGreatGSortD
namespace Go.Proofs.YtedgiljmffngoaaGreat
set_option linter.all false
open Go.RowKit
def fD (N:Nat) (s:ByteArray):Option AX:=some ⟨s,false⟩
def Jr (N:Nat):Option AF:=
 some (⟨(ByteArray.mk #[120]),Oy,0,Ox,[],[],[],[],[],([1000,1000,1000]:List Int),0⟩:AF)
def CX (N:Nat) (a:(List Int)):Option (List Int):=
 chk (IX (([]:List Int).length+a.length) 8) <|
 some (([]:List Int)++a)
def J9 (N:Nat) (a:AF) (b:Int) (c:List (List Int)):Option AE:=
 some (⟨b,c,(List.replicate ((↑a.A.length:Int):Int).toNat (0:Int)),[],(List.replicate ((↑a.E.length:Int):Int).toNat ((⟨0,0,false,false⟩:AT):AT)),(List.replicate ((↑a.H.length:Int):Int).toNat (0:Int)),(List.replicate ((↑a.H.length:Int):Int).toNat (0:Int))⟩:AE)
def JE (N:Nat) (c:AF) (d:(List (List Int))→Option AE):Nat→Int→(List (List Int))→Option AE
 |0,_,_=>none
 |l+1,a,b=>
 cond (decide (a<(↑c.A.length:Int))) (
 (ix c.A a).bind λg=>
 (CX N g.Be).bind λi=>
 (ix b a).bind λj=>
 (ix b a).bind λk=>
 JE N c d l (BD (a+1)) (upd b a i)) (
 d b)
def Nc (N:Nat) (a:AF) (b:Int):Option AE:=
 chk (KH (↑a.A.length:Int) (↑a.A.length:Int) 24) <|
 chk (KH (↑a.A.length:Int) (↑a.A.length:Int) 8) <|
 chk (KH (↑a.E.length:Int) (↑a.E.length:Int) 24) <|
 chk (KH (↑a.H.length:Int) (↑a.H.length:Int) 8) <|
 chk (KH (↑a.H.length:Int) (↑a.H.length:Int) 8) <|
 JE N a (J9 N a b) N 0 (List.replicate ((↑a.A.length:Int):Int).toNat ([]:(List Int)))
def CI (N:Nat) (a:(List AT)):Option (List AT):=
 chk (IX (([]:List AT).length+a.length) 24) <|
 some (([]:List AT)++a)
def FC (N:Nat) (a:AE) (d:List (List Int)):Option AE:=
 (CX N a.L).bind λg=>
 (CI N a.M).bind λi=>
 (CX N a.N).bind λb=>
 (CX N a.K).bind λc=>
 some (⟨a.B,d,g,a.G,i,b,c⟩:AE)
def FB (N:Nat) (b:AE) (d:(List (List Int))→Option AE):Nat→Int→(List (List Int))→Option AE
 |0,_,_=>none
 |j+1,a,c=>
 cond (decide (a<(↑b.D.length:Int))) (
 (ix b.D a).bind λg=>
 (CX N g).bind λi=>
 (ix c a).bind λk=>
 (ix c a).bind λl=>
 FB N b d j (BD (a+1)) (upd c a i)) (
 d c)
def Jx (N:Nat) (a:AE):Option AE:=
 chk (KH (↑a.D.length:Int) (↑a.D.length:Int) 24) <|
 FB N a (FC N a) N 0 (List.replicate ((↑a.D.length:Int):Int).toNat ([]:(List Int)))
def GY (N:Nat) (b:Int) (a:Int):Option Bool:=
 some ((decide (0≤b))&&(decide (b<a)))
def Fx (N:Nat) (a:AT) (b:Bool) (c:Bool):Option AT:=
 some (⟨a.V,a.W,b,c⟩:AT)
def Gp (N:Nat) (d:BM) (a:AT) (b:Int) (c:Bool→Bool→Option AT) (g:Bool):Option AT:=
 cond g (
 cond (decide (d.F=5)) (
 c a.At (decide (b=2))) (
 c a.At a.Ai)) (
 c a.At a.Ai)
def He (N:Nat) (c:BM) (b:AT) (a:Int):Option AT:=
 cond (decide (a=0)) (
 Fx N b true b.Ai) (
 cond (decide (a=1)) (
 Fx N b false b.Ai) (
 cond (decide (a=2)) (
 Gp N c b a (Fx N b) (decide (a=2))) (
 Gp N c b a (Fx N b) (decide (a=3)))))
def Hl (N:Nat) (c:Int) (b:Int) (a:Int):Option Int:=
 cond (decide (c<b)) (
 some b) (
 cond (decide (a<c)) (
 some a) (
 some c))
def LS (N:Nat) (a:AT) (b:Int):Option AT:=
 some ({ a with W:=b}:AT)
def I7 (N:Nat) (c:BM) (b:AT) (a:Int):Option AT:=
 cond (decide (c.U≠0)) (
 (Hl N a 0 c.U).bind λd=>
 LS N b d) (
 LS N b b.W)
def GK (N:Nat) (b:Int) (a:Int):Option Int:=
 cond ((decide (a<0))&&(decide ((BD (9223372036854775807+a))<b))) (
 some 9223372036854775807) (
 cond ((decide (0<a))&&(decide (b<(BD ((-9223372036854775808)+a))))) (
 some (-9223372036854775808)) (
 some (BD (b-a))))
def Fb (N:Nat) (b:Int) (a:Int):Option Int:=
 cond ((decide (0<a))&&(decide ((BD (9223372036854775807-a))<b))) (
 some 9223372036854775807) (
 cond ((decide (a<0))&&(decide (b<(BD ((-9223372036854775808)-a))))) (
 some (-9223372036854775808)) (
 some (BD (b+a))))
def Hk (N:Nat) (b:BM) (a:AT):Option AT:=
 cond a.At (
 some a) (
 (GK N a.W a.V).bind λc=>
 (GK N 0 b.Ac).bind λd=>
 (Hl N c d b.Ac).bind λg=>
 (Fb N a.V g).bind λi=>
 some ({ a with V:=i}:AT))
def GD (N:Nat) (a:Int) (b:Int→(List AT)→Option (List AT)) (c:List AT):Option (List AT):=
 b (BD (a+1)) c
def CQ (N:Nat) (p0_w:AN) (g:(List AT)→Option (List AT)):Nat→Int→(List AT)→Option (List AT)
 |0,_,_=>none
 |m+1,d,c=>
 cond (decide (d<(↑p0_w.in_.Aj.length:Int))) (
 (ix p0_w.in_.Aj d).bind λa=>
 (GY N a.As (↑p0_w.b.E.length:Int)).bind λi=>
 cond i (
 (ix p0_w.b.E a.As).bind λj=>
 (ix c a.As).bind λn=>
 (ix c a.As).bind λk=>
 (I7 N j k a.W).bind λl=>
 (ix c a.As).bind λo=>
 (ix c a.As).bind λp=>
 GD N d (CQ N p0_w g m) (upd c a.As l)) (
 GD N d (CQ N p0_w g m) c)) (
 g c)
def C7 (N:Nat) (p0_w:AN):Nat→Int→(List AT)→Option (List AT)
 |0,_,_=>none
 |m+1,a,c=>
 cond (decide (a<(↑p0_w.b.E.length:Int))) (
 (ix p0_w.b.E a).bind λd=>
 (ix c a).bind λj=>
 (ix c a).bind λg=>
 (Hk N d g).bind λi=>
 (ix c a).bind λk=>
 (ix c a).bind λl=>
 C7 N p0_w m (BD (a+1)) (upd c a i)) (
 some c)
def Ci (N:Nat) (p0_w:AN) (a:List AT):Option (List AT):=
 C7 N p0_w N 0 a
def Cj (N:Nat) (p0_w:AN) (a:List AT):Option (List AT):=
 CQ N p0_w (Ci N p0_w) N 0 a
def GE (N:Nat) (c:Int) (a:Int→(List AT)→Option (List AT)) (b:List AT):Option (List AT):=
 a (BD (c+1)) b
def CR (N:Nat) (p0_w:AN) (c:(List AT)→Option (List AT)):Nat→Int→(List AT)→Option (List AT)
 |0,_,_=>none
 |m+1,g,d=>
 cond (decide (g<(↑p0_w.in_.Ah.length:Int))) (
 (ix p0_w.in_.Ah g).bind λa=>
 (GY N a.As (↑p0_w.b.E.length:Int)).bind λi=>
 cond i (
 (ix p0_w.b.E a.As).bind λj=>
 (ix d a.As).bind λn=>
 (ix d a.As).bind λk=>
 (He N j k a.F).bind λl=>
 (ix d a.As).bind λo=>
 (ix d a.As).bind λp=>
 GE N g (CR N p0_w c m) (upd d a.As l)) (
 GE N g (CR N p0_w c m) d)) (
 c d)
def GZ (N:Nat) (p0_w:AN):Option (List AT):=
 CR N p0_w (Cj N p0_w) N 0 p0_w.s.M
def KM (N:Nat) (b:(List Int)) (a:Int):Option Int:=
 (cond ((decide (a<0))||(decide ((↑b.length:Int)≤a))) (some true) ((ix b a).bind λd=>
 some (decide (d<0)))).bind λg=>
 cond g (
 some 0) (
 (ix b a).bind λc=>
 some c)
def Kl (N:Nat) (a:List Int):Option (List Int):=
 some a
def Ld (N:Nat) (a:(List Int)) (b:Int) (c:Int) (d:Int):Option (List Int):=
 chk (KH (↑a.length:Int) (↑a.length:Int) 8) <|
 (KM N a b).bind λg=>
 cond ((((decide (0<(min d g)))&&(decide (0≤c)))&&(decide (c<(↑a.length:Int))))&&(decide (b≠c))) (
 (ix (O2 (List.replicate ((↑a.length:Int):Int).toNat (0:Int)) a) b).bind λl=>
 (ix (O2 (List.replicate ((↑a.length:Int):Int).toNat (0:Int)) a) b).bind λi=>
 (ix (O2 (List.replicate ((↑a.length:Int):Int).toNat (0:Int)) a) b).bind λm=>
 (ix (O2 (List.replicate ((↑a.length:Int):Int).toNat (0:Int)) a) b).bind λn=>
 (ix (upd (O2 (List.replicate ((↑a.length:Int):Int).toNat (0:Int)) a) b (BD (i-(min d g)))) c).bind λo=>
 (ix (upd (O2 (List.replicate ((↑a.length:Int):Int).toNat (0:Int)) a) b (BD (i-(min d g)))) c).bind λj=>
 (Fb N j (min d g)).bind λk=>
 (ix (upd (O2 (List.replicate ((↑a.length:Int):Int).toNat (0:Int)) a) b (BD (i-(min d g)))) c).bind λp=>
 (ix (upd (O2 (List.replicate ((↑a.length:Int):Int).toNat (0:Int)) a) b (BD (i-(min d g)))) c).bind λq=>
 Kl N (upd (upd (O2 (List.replicate ((↑a.length:Int):Int).toNat (0:Int)) a) b (BD (i-(min d g)))) c k)) (
 Kl N (O2 (List.replicate ((↑a.length:Int):Int).toNat (0:Int)) a))
def GC (N:Nat) (c:Int) (a:Int→(List (List Int))→Option (List (List Int))) (b:List (List Int)):Option (List (List Int)):=
 a (BD (c+1)) b
def CP (N:Nat) (p0_w:AN):Nat→Int→(List (List Int))→Option (List (List Int))
 |0,_,_=>none
 |o+1,d,c=>
 cond (decide (d<(↑p0_w.in_.Aq.length:Int))) (
 (ix p0_w.in_.Aq d).bind λa=>
 (GY N a.Ap (↑p0_w.b.A.length:Int)).bind λg=>
 (cond g ((GY N a.J (↑p0_w.b.H.length:Int)).bind λi=>
 some i) (some false)).bind λj=>
 (cond j ((GY N a.C (↑p0_w.b.H.length:Int)).bind λk=>
 some k) (some false)).bind λl=>
 cond l (
 (ix c a.Ap).bind λq=>
 (ix c a.Ap).bind λm=>
 (Ld N m a.J a.C a.Bd).bind λn=>
 (ix c a.Ap).bind λs=>
 (ix c a.Ap).bind λp=>
 GC N d (CP N p0_w o) (upd c a.Ap n)) (
 GC N d (CP N p0_w o) c)) (
 some c)
def En (N:Nat) (p0_w:AN):Option (List (List Int)):=
 CP N p0_w N 0 p0_w.s.D
def IF (N:Nat) (a:Int):Option Int:=
 some a
def Gn (N:Nat) (a:(List Int)) (c:Int→Option Int):Nat→Int→Int→Option Int
 |0,_,_=>none
 |j+1,i,b=>
 cond (decide (b<(↑a.length:Int))) (
 (ix a b).bind λd=>
 (Fb N i d).bind λg=>
 Gn N a c j g (BD (b+1))) (
 c i)
def DF (N:Nat) (a:(List Int)):Option Int:=
 Gn N a (IF N) N 0 0
def Dv (N:Nat) (p0_w:AN) (b:Int→Option ((List (List Int))×(List Int)×(List AK))):Nat→Int→Int→Option ((List (List Int))×(List Int)×(List AK))
 |0,_,_=>none
 |i+1,c,a=>
 cond (decide (a<(↑p0_w.s.G.length:Int))) (
 (ix p0_w.s.G a).bind λd=>
 (DF N d.T).bind λg=>
 Dv N p0_w b i (BD (c+g)) (BD (a+1))) (
 b c)
def Gj (N:Nat) (p0_w:AN) (k:Int) (l:Int) (d:Int) (i:List AK) (g:List (List Int)) (c:List Int) (m:Int→Int→(List AK)→(List (List Int))→(List Int)→Option ((List (List Int))×(List Int)×(List AK))) (a:Int):Option ((List (List Int))×(List Int)×(List AK)):=
 cond (decide (a≤0)) (
 m k l i g c) (
 (ix g d).bind λp=>
 (ix g d).bind λj=>
 (ix j 0).bind λn=>
 (ix j 0).bind λq=>
 (ix c 0).bind λt=>
 (ix c 0).bind λo=>
 (ix c 0).bind λu=>
 (ix c 0).bind λv=>
 chk (KH (↑p0_w.b.H.length:Int) (↑p0_w.b.H.length:Int) 8) <|
 (ix (List.replicate ((↑p0_w.b.H.length:Int):Int).toNat (0:Int)) 0).bind λw=>
 (ix (List.replicate ((↑p0_w.b.H.length:Int):Int).toNat (0:Int)) 0).bind λx=>
 chk (IX (i.length+([(⟨p0_w.s.B,(-1),d,(-4),(upd (List.replicate ((↑p0_w.b.H.length:Int):Int).toNat (0:Int)) 0 a)⟩:AK)]:List AK).length) 56) <|
 m (BD (k+a)) (BD (l+a)) (i++([(⟨p0_w.s.B,(-1),d,(-4),(upd (List.replicate ((↑p0_w.b.H.length:Int):Int).toNat (0:Int)) 0 a)⟩:AK)]:List AK)) (upd g d (upd j 0 (BD (n+a)))) (upd c 0 (BD (o+a))))
def FP (N:Nat) (a:Int) (j:Int→Int→Int→(List AK)→(List (List Int))→(List Int)→Option ((List (List Int))×(List Int)×(List AK))) (b:Int) (c:Int) (d:List AK) (g:List (List Int)) (i:List Int):Option ((List (List Int))×(List Int)×(List AK)):=
 j b c (BD (a+1)) d g i
def Cb (N:Nat) (p0_w:AN):Nat→Int→Int→Int→(List AK)→(List (List Int))→(List Int)→Option ((List (List Int))×(List Int)×(List AK))
 |0,_,_,_,_,_,_=>none
 |l+1,c,d,a,g,i,j=>
 cond (decide (a<(↑p0_w.b.A.length:Int))) (
 cond (decide (a<(↑p0_w.in_.Z.length:Int))) (
 (ix p0_w.in_.Z a).bind λk=>
 Gj N p0_w c d a g i j (FP N a (Cb N p0_w l)) (min (min k (BD (1125899906842624-c))) (BD (1152921504606846976-d)))) (
 Gj N p0_w c d a g i j (FP N a (Cb N p0_w l)) 0)) (
 some (i,j,g))
def Dx (N:Nat) (p0_w:AN) (a:Int):Option ((List (List Int))×(List Int)×(List AK)):=
 (DF N p0_w.s.N).bind λb=>
 Cb N p0_w N a b 0 p0_w.moves p0_w.s.D p0_w.s.N
def Dy (N:Nat) (p0_w:AN) (a:Int):Option ((List (List Int))×(List Int)×(List AK)):=
 Dv N p0_w (Dx N p0_w) N a 0
def Dw (N:Nat) (p0_w:AN) (b:Int→Option ((List (List Int))×(List Int)×(List AK))):Nat→Int→Int→Option ((List (List Int))×(List Int)×(List AK))
 |0,_,_=>none
 |i+1,g,a=>
 cond (decide (a<(↑p0_w.s.D.length:Int))) (
 (ix p0_w.s.D a).bind λj=>
 (ix p0_w.s.D a).bind λc=>
 (DF N c).bind λd=>
 Dw N p0_w b i (BD (g+d)) (BD (a+1))) (
 b g)
def In (N:Nat) (p0_w:AN):Option ((List (List Int))×(List Int)×(List AK)):=
 Dw N p0_w (Dy N p0_w) N 0 0
def Hi (N:Nat) (a:List Int):Option (List Int):=
 some a
def Fm (N:Nat) (c:(List Int)) (d:(List Int)→Option (List Int)):Nat→Int→(List Int)→Option (List Int)
 |0,_,_=>none
 |k+1,a,b=>
 cond (decide (a<(↑c.length:Int))) (
 (ix c a).bind λg=>
 (ix b a).bind λl=>
 (ix b a).bind λi=>
 (Fb N i g).bind λj=>
 (ix b a).bind λm=>
 (ix b a).bind λn=>
 Fm N c d k (BD (a+1)) (upd b a j)) (
 d b)
def Gz (N:Nat) (a:(List Int)) (b:(List Int)):Option (List Int):=
 chk (KH (max (↑a.length:Int) (↑b.length:Int)) (max (↑a.length:Int) (↑b.length:Int)) 8) <|
 Fm N b (Hi N) N 0 (O2 (List.replicate ((max (↑a.length:Int) (↑b.length:Int)):Int).toNat (0:Int)) a)
def JX (N:Nat) (a:Int) (b:(List AV)→Int→(List (List Int))→Option ((List (List Int))×(List AV))) (c:List AV) (d:List (List Int)):Option ((List (List Int))×(List AV)):=
 b c (BD (a+1)) d
def Fl (N:Nat) (d:(List AV)) (b:Int) (n:Int) (k:(List AV)→(List (List Int))→Option ((List (List Int))×(List AV))):Nat→(List AV)→Int→(List (List Int))→Option ((List (List Int))×(List AV))
 |0,_,_,_=>none
 |o+1,g,i,c=>
 cond (decide (i<(↑d.length:Int))) (
 (ix d i).bind λa=>
 cond (((decide (a.Am≤b))&&(decide (0≤a.C)))&&(decide (a.C<n))) (
 (ix c a.C).bind λp=>
 (ix c a.C).bind λl=>
 (Gz N l a.T).bind λm=>
 (ix c a.C).bind λq=>
 (ix c a.C).bind λs=>
 JX N i (Fl N d b n k o) g (upd c a.C m)) (
 (CX N a.T).bind λj=>
 chk (IX (g.length+([({ a with T:=j}:AV)]:List AV).length) 40) <|
 JX N i (Fl N d b n k o) (g++([({ a with T:=j}:AV)]:List AV)) c)) (
 k g c)
def Hw (N:Nat) (a:List AV) (b:List (List Int)):Option ((List (List Int))×(List AV)):=
 some (b,a)
def Gc (N:Nat) (b:(List AV)) (a:Int) (d:Int) (c:List (List Int)):Option ((List (List Int))×(List AV)):=
 Fl N b a d (Hw N) N ([]:List AV) 0 c
def Gb (N:Nat) (g:Int) (d:Int) (c:(List (List Int))→Option ((List (List Int))×(List AV))):Nat→Int→(List (List Int))→Option ((List (List Int))×(List AV))
 |0,_,_=>none
 |i+1,a,b=>
 cond (decide (a<(↑(List.replicate (g:Int).toNat ([]:(List Int))).length:Int))) (
 chk (KH d d 8) <|
 (ix b a).bind λj=>
 (ix b a).bind λk=>
 Gb N g d c i (BD (a+1)) (upd b a (List.replicate (d:Int).toNat (0:Int)))) (
 c b)
def Lb (N:Nat) (d:(List AV)) (c:Int) (a:Int) (b:Int):Option ((List (List Int))×(List AV)):=
 (Hl N a 0 64).bind λg=>
 (Hl N b 0 16).bind λi=>
 chk (KH g g 24) <|
 Gb N g i (Gc N d c g) N 0 (List.replicate (g:Int).toNat ([]:(List Int)))
def Ip (N:Nat) (a:AT) (b:Bool):Option AT:=
 some ({ a with Ai:=b}:AT)
def G9 (N:Nat) (b:BM) (a:AT) (c:Int):Option AT:=
 cond (decide (b.F≠3)) (
 some a) (
 cond (decide (b.Aw≤c)) (
 Ip N a true) (
 cond (decide (c≤b.Ax)) (
 Ip N a false) (
 Ip N a a.Ai)))
def Er (N:Nat) (a:Int) (c:Int→(List AT)→Option ((List (List Int))×(List AV)×(List AT)×(List Int))) (b:List AT):Option ((List (List Int))×(List AV)×(List AT)×(List Int)):=
 c (BD (a+1)) b
def CC (N:Nat) (p0_w:AN) (j:(List (List Int))×(List AV)) (i:List (List Int)) (d:List Int):Nat→Int→(List AT)→Option ((List (List Int))×(List AV)×(List AT)×(List Int))
 |0,_,_=>none
 |n+1,a,c=>
 cond (decide (a<(↑p0_w.b.E.length:Int))) (
 (ix p0_w.b.E a).bind λg=>
 cond (decide (g.F=3)) (
 (ix c a).bind λo=>
 (ix c a).bind λk=>
 (ix d g.J).bind λp=>
 (ix d g.J).bind λl=>
 (G9 N g k l).bind λm=>
 (ix c a).bind λq=>
 (ix c a).bind λs=>
 Er N a (CC N p0_w j i d n) (upd c a m)) (
 Er N a (CC N p0_w j i d n) c)) (
 some (i,j.2,c,d))
def Ce (N:Nat) (p0_w:AN) (c:(List (List Int))×(List AV)) (a:List (List Int)) (b:List Int):Option ((List (List Int))×(List AV)×(List AT)×(List Int)):=
 CC N p0_w c a b N 0 p0_w.s.M
def CS (N:Nat) (p0_w:AN) (i:(List (List Int))×(List AV)) (j:(List (List Int))→(List Int)→Option ((List (List Int))×(List AV)×(List AT)×(List Int))):Nat→Int→(List (List Int))→(List Int)→Option ((List (List Int))×(List AV)×(List AT)×(List Int))
 |0,_,_,_=>none
 |w+1,a,c,d=>
 cond (decide (a<(↑p0_w.b.A.length:Int))) (
 (ix c a).bind λo=>
 (ix c a).bind λk=>
 (ix i.1 a).bind λp=>
 (ix i.1 a).bind λl=>
 (Gz N k l).bind λg=>
 (ix c a).bind λq=>
 (ix c a).bind λs=>
 (ix (upd c a g) a).bind λt=>
 (ix (upd c a g) a).bind λm=>
 (DF N m).bind λn=>
 (ix d a).bind λu=>
 (ix d a).bind λv=>
 CS N p0_w i j w (BD (a+1)) (upd c a g) (upd d a n)) (
 j c d)
def Ex (N:Nat) (p0_w:AN):Option ((List (List Int))×(List AV)×(List AT)×(List Int)):=
 (Lb N p0_w.s.G p0_w.s.B (↑p0_w.b.A.length:Int) (↑p0_w.b.H.length:Int)).bind λa=>
 CS N p0_w a (Ce N p0_w a) N 0 p0_w.s.D p0_w.peaks
def HM (N:Nat) (a:List Int):Option (List Int):=
 some a
def FZ (N:Nat) (a:(List Int)) (d:(List Int)→Option (List Int)):Nat→Int→(List Int)→Option (List Int)
 |0,_,_=>none
 |j+1,b,c=>
 cond (decide (b<(↑a.length:Int))) (
 (ix a b).bind λg=>
 (ix c b).bind λk=>
 (ix c b).bind λi=>
 (ix c b).bind λl=>
 (ix c b).bind λm=>
 FZ N a d j (BD (b+1)) (upd c b (BD (i-g)))) (
 d c)
def Hx (N:Nat) (a:(List Int)) (b:(List Int)):Option (List Int):=
 chk (KH (↑a.length:Int) (↑a.length:Int) 8) <|
 FZ N b (HM N) N 0 (O2 (List.replicate ((↑a.length:Int):Int).toNat (0:Int)) a)
def It (N:Nat) (a:(List Int)) (b:List Int):Option ((List Int)×(List Int)):=
 (Hx N a b).bind λc=>
 some (b,c)
def Le (N:Nat) (b:(List Int)) (a:Int) (c:Int):Option ((List Int)×(List Int)):=
 chk (KH (↑b.length:Int) (↑b.length:Int) 8) <|
 (KM N b a).bind λd=>
 cond (decide (0<(min c d))) (
 (ix (List.replicate ((↑b.length:Int):Int).toNat (0:Int)) a).bind λg=>
 (ix (List.replicate ((↑b.length:Int):Int).toNat (0:Int)) a).bind λi=>
 It N b (upd (List.replicate ((↑b.length:Int):Int).toNat (0:Int)) a (min c d))) (
 It N b (List.replicate ((↑b.length:Int):Int).toNat (0:Int)))
def DP (N:Nat) (b:Hb) (a:(List Int)):Option ((List Int)×(List Int)):=
 (Le N a b.Bg b.Bd).bind λc=>
 some (c.1,c.2)
def C6 (N:Nat) (a:List AD):Option (List AD):=
 some a
def GB (N:Nat) (a:Int) (b:(List AD)→Int→Option (List AD)) (c:List AD):Option (List AD):=
 b c (BD (a+1))
def CF (N:Nat) (p0_w:AN) (a:Int) (g:(List AD)→Option (List AD)):Nat→(List AD)→Int→Option (List AD)
 |0,_,_=>none
 |j+1,i,d=>
 cond (decide (d<(↑p0_w.in_.Aa.length:Int))) (
 (ix p0_w.in_.Aa d).bind λc=>
 (cond (decide (c.Ap≠a)) (some true) ((GY N c.Bg (↑p0_w.b.H.length:Int)).bind λk=>
 some (!k))).bind λl=>
 cond (l||(decide (c.Bd≤0))) (
 GB N d (CF N p0_w a g j) i) (
 (cond (decide (c.C≠(-1))) ((GY N c.C (↑p0_w.b.A.length:Int)).bind λm=>
 (cond (!m) (some true) ((ix p0_w.b.A c.C).bind λn=>
 (ix p0_w.b.A a).bind λo=>
 some (decide (n.An≠o.An)))).bind λp=>
 some p) (some false)).bind λq=>
 cond q (
 GB N d (CF N p0_w a g j) i) (
 chk (IX (i.length+1) 32) <|
 GB N d (CF N p0_w a g j) (i++([(⟨c.C,0,(-3),(λx=>DP N c x)⟩:AD)]:List AD))))) (
 g i)
def IM (N:Nat) (p0_w:AN) (a:Int):Option (List AD):=
 CF N p0_w a (C6 N) N ([]:List AD) 0
def HN (N:Nat) (a:Int) (b:Int):Option (Int×Int):=
 some ((IntKind.wrap .u64 ((IntKind.wrap .u64 ((IntKind.wrap .u64 ((EY .u64 a 32)*(EY .u64 b 32)))+(EY .u64 (IntKind.wrap .u64 ((IntKind.wrap .u64 ((EY .u64 a 32)*(FL .and .u64 b 4294967295)))+(EY .u64 (IntKind.wrap .u64 ((FL .and .u64 a 4294967295)*(FL .and .u64 b 4294967295))) 32))) 32)))+(EY .u64 (IntKind.wrap .u64 ((FL .and .u64 (IntKind.wrap .u64 ((IntKind.wrap .u64 ((EY .u64 a 32)*(FL .and .u64 b 4294967295)))+(EY .u64 (IntKind.wrap .u64 ((FL .and .u64 a 4294967295)*(FL .and .u64 b 4294967295))) 32))) 4294967295)+(IntKind.wrap .u64 ((FL .and .u64 a 4294967295)*(EY .u64 b 32))))) 32))),(IntKind.wrap .u64 (a*b)))
def GH (N:Nat) (a:Int) (b:Int):Option Int:=
 (T9 Mx (IntKind.wrap .u8 a)).bind λc=>
 some (BD (b+(BD c)))
def GI (N:Nat) (a:Int) (b:Int):Option Int:=
 cond (decide (256≤a)) (
 GH N (EY .u64 a 8) (BD (b+8))) (
 GH N a b)
def GJ (N:Nat) (a:Int) (b:Int):Option Int:=
 cond (decide (65536≤a)) (
 GI N (EY .u64 a 16) (BD (b+16))) (
 GI N a b)
def IS (N:Nat) (a:Int):Option Int:=
 cond (decide (4294967296≤a)) (
 GJ N (EY .u64 a 32) 32) (
 GJ N a 0)
def Ez (N:Nat) (a:Int):Option Int:=
 (IS N a).bind λb=>
 some (BD (64-b))
def DY (N:Nat) (b:Int) (a:Int) (d:Nat) (j:Nat) (g:Int→Option (Int×Int)):Nat→Int→Int→Option (Int×Int)
 |0,_,_=>none
 |k+1,i,c=>
 cond ((decide (4294967296≤c))||(decide ((IntKind.wrap .u64 ((IntKind.wrap .u64 (4294967296*i))+(FL .and .u64 (Di .u64 b j) 4294967295)))<(IntKind.wrap .u64 (c*(FL .and .u64 (Di .u64 a d) 4294967295)))))) (
 cond (decide (4294967296≤(IntKind.wrap .u64 (i+(EY .u64 (Di .u64 a d) 32))))) (
 g (IntKind.wrap .u64 (c-1))) (
 DY N b a d j g k (IntKind.wrap .u64 (i+(EY .u64 (Di .u64 a d) 32))) (IntKind.wrap .u64 (c-1)))) (
 g c)
def E0 (N:Nat) (c:Int) (a:Int) (b:Int) (n:Int) (d:Nat) (k:Nat) (l:Nat) (g:Nat) (i:Int) (j:Int):Option (Int×Int):=
 (Pg (IntKind.wrap .u64 n)).bind λm=>
 some ((IntKind.wrap .u64 ((IntKind.wrap .u64 (i*4294967296))+j)),(EY .u64 (IntKind.wrap .u64 ((IntKind.wrap .u64 ((IntKind.wrap .u64 ((IntKind.wrap .u64 ((IntKind.wrap .u64 ((IntKind.wrap .u64 ((FL .or .u64 (Di .u64 c k) (EY .u64 a l))*4294967296))+(EY .u64 (Di .u64 a g) 32)))-(IntKind.wrap .u64 (i*(Di .u64 b d)))))*4294967296))+(FL .and .u64 (Di .u64 a g) 4294967295)))-(IntKind.wrap .u64 (j*(Di .u64 b d))))) m))
def DZ (N:Nat) (c:Int) (a:Int) (b:Int) (m:Int) (d:Nat) (i:Nat) (j:Nat) (g:Nat) (k:Int):Option (Int×Int):=
 (RP .u64 (IntKind.wrap .u64 ((IntKind.wrap .u64 ((IntKind.wrap .u64 ((FL .or .u64 (Di .u64 c i) (EY .u64 a j))*4294967296))+(EY .u64 (Di .u64 a g) 32)))-(IntKind.wrap .u64 (k*(Di .u64 b d))))) (EY .u64 (Di .u64 b d) 32)).bind λl=>
 DY N a b d g (E0 N c a b m d i j g k) N (IntKind.wrap .u64 ((IntKind.wrap .u64 ((IntKind.wrap .u64 ((IntKind.wrap .u64 ((FL .or .u64 (Di .u64 c i) (EY .u64 a j))*4294967296))+(EY .u64 (Di .u64 a g) 32)))-(IntKind.wrap .u64 (k*(Di .u64 b d)))))-(IntKind.wrap .u64 (l*(EY .u64 (Di .u64 b d) 32))))) l
def C9 (N:Nat) (b:Int) (a:Int) (d:Nat) (j:Nat) (g:Int→Option (Int×Int)):Nat→Int→Int→Option (Int×Int)
 |0,_,_=>none
 |k+1,c,i=>
 cond ((decide (4294967296≤c))||(decide ((IntKind.wrap .u64 ((IntKind.wrap .u64 (4294967296*i))+(EY .u64 (Di .u64 b j) 32)))<(IntKind.wrap .u64 (c*(FL .and .u64 (Di .u64 a d) 4294967295)))))) (
 cond (decide (4294967296≤(IntKind.wrap .u64 (i+(EY .u64 (Di .u64 a d) 32))))) (
 g (IntKind.wrap .u64 (c-1))) (
 C9 N b a d j g k (IntKind.wrap .u64 (c-1)) (IntKind.wrap .u64 (i+(EY .u64 (Di .u64 a d) 32))))) (
 g c)
def Fa (N:Nat) (c:Int) (b:Int) (a:Int):Option (Int×Int):=
 cond (decide (a=0)) (
 none) (
 cond (decide (a≤c)) (
 none) (
 cond (decide (c=0)) (
 (RP .u64 b a).bind λm=>
 (Tp b a).bind λn=>
 some (m,n)) (
 (Ez N a).bind λj=>
 (Pg (IntKind.wrap .u64 j)).bind λd=>
 (Pg (IntKind.wrap .u64 j)).bind λg=>
 (Pg (IntKind.wrap .u64 (64-(IntKind.wrap .u64 j)))).bind λi=>
 (Pg (IntKind.wrap .u64 j)).bind λk=>
 (RP .u64 (FL .or .u64 (Di .u64 c g) (EY .u64 b i)) (EY .u64 (Di .u64 a d) 32)).bind λl=>
 C9 N b a d k (DZ N c b a j d g i k) N l (IntKind.wrap .u64 ((FL .or .u64 (Di .u64 c g) (EY .u64 b i))-(IntKind.wrap .u64 (l*(EY .u64 (Di .u64 a d) 32))))))))
def Fo (N:Nat) (c:Int) (b:Int) (a:Int):Option (Int×Int×Bool):=
 cond ((((((decide (c<0))||(decide (1125899906842624<c)))||(decide (b<0)))||(decide (1125899906842624<b)))||(decide (a<1)))||(decide (1125899906842624<a))) (
 some (0,0,false)) (
 (HN N (IntKind.wrap .u64 c) (IntKind.wrap .u64 b)).bind λg=>
 cond (decide ((IntKind.wrap .u64 a)≤g.1)) (
 some (0,0,false)) (
 (Fa N g.1 g.2 (IntKind.wrap .u64 a)).bind λd=>
 cond (decide (1125899906842624<d.1)) (
 some (0,0,false)) (
 some ((BD d.1),(BD d.2),true))))
def Hj (N:Nat) (c:Int) (a:Int) (b:Int):Option Int:=
 (Fo N c a b).bind λd=>
 cond (!d.2.2) (
 some 0) (
 some d.1)
def Lf (N:Nat) (b:BM) (a:Int) (c:Int):Option Int:=
 cond (decide (b.C=(-1))) (
 some a) (
 (Hj N c b.Ar b.Al).bind λd=>
 (GK N a d).bind λg=>
 some (max 0 g))
def G1 (N:Nat):Option Bool:=
 some true
def Ea (N:Nat) (a:(List BS)) (d:Option Bool):Nat→Int→Option Bool
 |0,_=>none
 |l+1,c=>
 cond (decide (c<(↑a.length:Int))) (
 (ix a c).bind λb=>
 cond ((((decide (b.P<0))||(decide (1125899906842624<b.P)))||(decide (b.X<0)))||(decide (1125899906842624<b.X))) (
 some false) (
 (cond (decide (0<c)) ((ix a (BD (c-1))).bind λg=>
 (cond (decide (b.P≤g.P)) (some true) ((ix a (BD (c-1))).bind λi=>
 some (decide (b.X<i.X)))).bind λj=>
 some j) (some false)).bind λk=>
 cond k (
 some false) (
 Ea N a d l (BD (c+1))))) (
 d)
def Eb (N:Nat) (a:(List BS)):Option Bool:=
 cond ((decide ((↑a.length:Int)<1))||(decide (32<(↑a.length:Int)))) (
 some false) (
 Ea N a (G1 N) N 0)
def Io (N:Nat) (a:Int):Option Int:=
 some a
def GG (N:Nat) (b:(Int→Option Bool)) (d:Int→Option Int):Nat→Int→Int→Option Int
 |0,_,_=>none
 |i+1,a,c=>
 cond (decide (a<c)) (
 (b (BD (EY .u64 (IntKind.wrap .u64 (BD (a+c))) 1))).bind λg=>
 cond (!g) (
 GG N b d i (BD ((BD (EY .u64 (IntKind.wrap .u64 (BD (a+c))) 1))+1)) c) (
 GG N b d i a (BD (EY .u64 (IntKind.wrap .u64 (BD (a+c))) 1)))) (
 d a)
def LK (N:Nat) (a:Int) (b:(Int→Option Bool)):Option Int:=
 GG N b (Io N) N 0 a
def IG (N:Nat) (b:(List BS)) (c2_:Int) (a:Int):Option Bool:=
 (ix b a).bind λc=>
 some (decide (c2_<c.P))
def Ie (N:Nat) (a:(List BS)) (d:Int):Option (Int×Bool):=
 (LK N (↑a.length:Int) (λx=>IG N a d x)).bind λb=>
 cond (decide (b=0)) (
 (ix a 0).bind λi=>
 some (i.X,false)) (
 (ix a (BD (b-1))).bind λc=>
 cond (decide (b=(↑a.length:Int))) (
 some (c.X,false)) (
 (ix a b).bind λj=>
 (ix a b).bind λk=>
 (Fo N (BD (d-c.P)) (BD (j.X-c.X)) (BD (k.P-c.P))).bind λg=>
 some ((BD (c.X+g.1)),(decide (0<g.2.1)))))
def MT (N:Nat) (a:(List BS)) (b:Int):Option Int:=
 (Eb N a).bind λc=>
 cond (!c) (
 some 0) (
 (Ie N a b).bind λd=>
 some d.1)
def Iv (N:Nat):Option Int:=
 some 0
def Iu (N:Nat) (a:BM) (b:Int):Option Int:=
 (GK N b a.Bc).bind λd=>
 (Hj N (max 0 d) a.Y a.S).bind λc=>
 some c
def Kp (N:Nat) (a:Bool) (b:Option Int):Option Int:=
 cond (!a) (
 some 0) (
 b)
def Ko (N:Nat) (c:BM) (a:Bool) (b:Int) (d:Option Int):Option Int:=
 cond a (
 (Hj N b c.Y c.S).bind λg=>
 some g) (
 d)
def Kn (N:Nat) (b:BM) (a:Int):Option Int:=
 (Hj N b.Y a b.U).bind λc=>
 some c
def Km (N:Nat) (a:BM) (c:Int) (g:(List BS)) (b:Int) (d:Int):Option Int:=
 (Lf N a b d).bind λi=>
 (MT N g i).bind λj=>
 (Hj N j c a.U).bind λk=>
 (Fb N k a.Bb).bind λl=>
 some l
def Lg (N:Nat) (a:BM) (d:Int) (c:Bool) (i:(List BS)) (b:Int) (g:Int):Option Int:=
 cond (decide (a.F=0)) (
 Km N a d i b g) (
 cond (decide (a.F=2)) (
 Kn N a d) (
 cond (decide (a.F=3)) (
 Ko N a c b (Iv N)) (
 cond (decide (a.F=5)) (
 Kp N c (Iu N a b)) (
 cond (decide (a.F=1)) (
 Iu N a b) (
 Iv N)))))
def MS (N:Nat) (b:BM) (c:AT) (a:Int) (d:Int):Option Int:=
 (Lg N b c.V c.Ai b.Av a d).bind λg=>
 some g
def G8 (N:Nat) (a:Int):Option Int:=
 some a
def E7 (N:Nat):Option Bool:=
 some true
def DE (N:Nat) (a:(List Int)) (c:Option Bool):Nat→Int→Int→Option Bool
 |0,_,_=>none
 |i+1,g,d=>
 cond (decide (d<(↑a.length:Int))) (
 (ix a d).bind λb=>
 cond ((decide (b<0))||(decide ((BD (1125899906842624-g))<b))) (
 some false) (
 DE N a c i (BD (g+b)) (BD (d+1)))) (
 c)
def HA (N:Nat) (a:(List Int)):Option Bool:=
 DE N a (E7 N) N 0 0
def FE (N:Nat) (c:Int) (a:(List Int)) (n:Int) (k:Int→(List Int)→(List Int)→(List Int)→Option ((List Int)×Bool)):Nat→Int→Int→(List Int)→(List Int)→(List Int)→Option ((List Int)×Bool)
 |0,_,_,_,_,_=>none
 |v+1,l,b,g,i,j=>
 cond (decide (b<(↑a.length:Int))) (
 (ix a b).bind λm=>
 (Fo N c m n).bind λd=>
 (ix j b).bind λo=>
 (ix j b).bind λp=>
 (ix i b).bind λq=>
 (ix i b).bind λs=>
 (ix g b).bind λt=>
 (ix g b).bind λu=>
 FE N c a n k v (BD (l-d.1)) (BD (b+1)) (upd g b b) (upd i b d.2.1) (upd j b d.1)) (
 k l g i j)
def FD (N:Nat) (c:List Int) (g:(List Int)→Option ((List Int)×Bool)):Nat→Int→(List Int)→Option ((List Int)×Bool)
 |0,_,_=>none
 |m+1,d,a=>
 cond (decide (d<(↑c.length:Int))) (
 (ix c d).bind λb=>
 (ix a b).bind λj=>
 (ix a b).bind λi=>
 (ix a b).bind λk=>
 (ix a b).bind λl=>
 FD N c g m (BD (d+1)) (upd a b (BD (i+1)))) (
 g a)
def G0 (N:Nat) (a:List Int):Option ((List Int)×Bool):=
 some (a,true)
def FH (N:Nat) (c:Int) (d:List Int) (g:List Int) (i:List Int):Option ((List Int)×Bool):=
 (Rs d g).bind λa=>
 (qP a c).bind λb=>
 FD N b (G0 N) N 0 i
def FI (N:Nat) (b:Int) (a:(List Int)) (c:Int):Option ((List Int)×Bool):=
 cond ((decide (b<0))||(decide (c<b))) (
 some (([]:List Int),false)) (
 chk (KH (↑a.length:Int) (↑a.length:Int) 8) <|
 cond (decide (c=0)) (
 some ((List.replicate ((↑a.length:Int):Int).toNat (0:Int)),true)) (
 chk (KH (↑a.length:Int) (↑a.length:Int) 8) <|
 chk (KH (↑a.length:Int) (↑a.length:Int) 8) <|
 FE N b a c (FH N) N b 0 (List.replicate ((↑a.length:Int):Int).toNat (0:Int)) (List.replicate ((↑a.length:Int):Int).toNat (0:Int)) (List.replicate ((↑a.length:Int):Int).toNat (0:Int))))
def FG (N:Nat) (a:(List Int)) (g:Int→Option ((List Int)×Bool)):Nat→Int→Int→Option ((List Int)×Bool)
 |0,_,_=>none
 |i+1,b,c=>
 cond (decide (c<(↑a.length:Int))) (
 (ix a c).bind λd=>
 cond ((decide (d<0))||(decide ((BD (1125899906842624-b))<d))) (
 some (([]:List Int),false)) (
 FG N a g i (BD (b+d)) (BD (c+1)))) (
 g b)
def J4 (N:Nat) (b:Int) (a:(List Int)):Option ((List Int)×Bool):=
 cond (decide (64<(↑a.length:Int))) (
 some (([]:List Int),false)) (
 FG N a (FI N b a) N 0 0)
def HJ (N:Nat) (a:(List Int)) (b:List Int):Option ((List Int)×(List Int)):=
 (Hx N a b).bind λc=>
 some (b,c)
def JY (N:Nat) (a:(List Int)→Option ((List Int)×(List Int))) (b:List Int):Option ((List Int)×(List Int)):=
 a b
def Lc (N:Nat) (a:(List Int)) (b:Int):Option ((List Int)×(List Int)):=
 chk (KH (↑a.length:Int) (↑a.length:Int) 8) <|
 (cond ((decide (0<b))&&(decide ((↑a.length:Int)≤64))) ((HA N a).bind λd=>
 some d) (some false)).bind λg=>
 cond g (
 (DF N a).bind λi=>
 (J4 N (min b i) a).bind λc=>
 cond c.2 (
 JY N (HJ N a) (O2 (List.replicate ((↑a.length:Int):Int).toNat (0:Int)) c.1)) (
 JY N (HJ N a) (List.replicate ((↑a.length:Int):Int).toNat (0:Int)))) (
 HJ N a (List.replicate ((↑a.length:Int):Int).toNat (0:Int)))
def AL (N:Nat) (b:Int) (a:(List Int)):Option ((List Int)×(List Int)):=
 (Lc N a b).bind λc=>
 some (c.1,c.2)
def KT (N:Nat) (c:Int) (a:Int) (b:Int):Option Int:=
 (Fo N c a b).bind λd=>
 cond (!d.2.2) (
 some 0) (
 some d.1)
def K7 (N:Nat) (a:BM) (b:Int) (c:Int):Option Int:=
 cond (decide (a.F≠4)) (
 some 0) (
 (KT N b a.Y a.S).bind λd=>
 (KT N c a.Ar a.Al).bind λg=>
 some (BD (d-g)))
def C8 (N:Nat) (a:List AD):Option (List AD):=
 some a
def HH (N:Nat) (p0_w:AN) (c:Int) (m:List AD) (b:Int) (a:BM) (g:(List AD)→Option (List AD)) (i:Int):Option (List AD):=
 (ix p0_w.s.M b).bind λn=>
 (ix p0_w.s.M b).bind λj=>
 (ix p0_w.peaks c).bind λo=>
 (ix p0_w.peaks c).bind λk=>
 (MS N a j k i).bind λl=>
 (G8 N l).bind λd=>
 chk (IX (m.length+([(⟨a.C,a.Q,b,(λx=>AL N d x)⟩:AD)]:List AD).length) 32) <|
 g (m++([(⟨a.C,a.Q,b,(λx=>AL N d x)⟩:AD)]:List AD))
def DX (N:Nat) (a:Int) (b:(List AD)→Int→Option (List AD)) (c:List AD):Option (List AD):=
 b c (BD (a+1))
def Bz (N:Nat) (p0_w:AN) (c:Int) (g:(List AD)→Option (List AD)):Nat→(List AD)→Int→Option (List AD)
 |0,_,_=>none
 |l+1,i,d=>
 cond (decide (d<(↑p0_w.b.E.length:Int))) (
 (ix p0_w.b.E d).bind λa=>
 cond ((decide (a.J=c))&&(decide (a.F≠4))) (
 cond (decide (a.C≠(-1))) (
 (ix p0_w.peaks a.C).bind λA=>
 (ix p0_w.peaks a.C).bind λu=>
 HH N p0_w c i d a (DX N d (Bz N p0_w c g l)) u) (
 HH N p0_w c i d a (DX N d (Bz N p0_w c g l)) 0)) (
 cond (decide (a.J=c)) (
 (ix p0_w.peaks c).bind λv=>
 (ix p0_w.peaks c).bind λm=>
 (ix p0_w.peaks a.C).bind λw=>
 (ix p0_w.peaks a.C).bind λn=>
 (K7 N a m n).bind λo=>
 (G8 N o).bind λj=>
 chk (IX (i.length+([(⟨a.C,a.Q,d,(λx=>AL N j x)⟩:AD)]:List AD).length) 32) <|
 DX N d (Bz N p0_w c g l) (i++([(⟨a.C,a.Q,d,(λx=>AL N j x)⟩:AD)]:List AD))) (
 cond ((decide (a.C=c))&&(decide (a.F=4))) (
 (ix p0_w.peaks a.J).bind λy=>
 (ix p0_w.peaks a.J).bind λp=>
 (ix p0_w.peaks c).bind λz=>
 (ix p0_w.peaks c).bind λq=>
 (K7 N a p q).bind λs=>
 (GK N 0 s).bind λt=>
 (G8 N t).bind λk=>
 chk (IX (i.length+([(⟨a.J,a.Q,d,(λx=>AL N k x)⟩:AD)]:List AD).length) 32) <|
 DX N d (Bz N p0_w c g l) (i++([(⟨a.J,a.Q,d,(λx=>AL N k x)⟩:AD)]:List AD))) (
 DX N d (Bz N p0_w c g l) i)))) (
 g i)
def IP (N:Nat) (p0_w:AN) (a:Int):Option (List AD):=
 Bz N p0_w a (C8 N) N ([]:List AD) 0
def B5 (N:Nat) (a:List AD):Option (List AD):=
 some a
def CG (N:Nat) (a:Int):Option (List AD):=
 cond (decide (a<0)) (
 none) (
 cond (decide (0<(BD (a-(BD (0-0)))))) (
 chk (decide (0<(BD (a-(BD (0-0)))))) <|
 chk (IX ((BD (a-(BD (0-0)))):Int).toNat 32) <|
 B5 N ([]:List AD)) (
 B5 N ([]:List AD)))
def BV (N:Nat) (a:(List (List AD))) (d:(List AD)→Option (List AD)):Nat→(List AD)→Int→Option (List AD)
 |0,_,_=>none
 |i+1,b,c=>
 cond (decide (c<(↑a.length:Int))) (
 (ix a c).bind λg=>
 chk (IX (b.length+g.length) 32) <|
 BV N a d i (b++g) (BD (c+1))) (
 d b)
def CT (N:Nat) (a:List AD):Option (List AD):=
 some a
def B1 (N:Nat) (a:(List (List AD))) (c:Int):Option (List AD):=
 (CG N c).bind λb=>
 BV N a (CT N) N b 0
def BW (N:Nat) (a:(List (List AD))) (c:Int→Option (List AD)):Nat→Int→Int→Option (List AD)
 |0,_,_=>none
 |i+1,g,b=>
 cond (decide (b<(↑a.length:Int))) (
 (ix a b).bind λd=>
 cond (decide ((BD (g+(↑d.length:Int)))<0)) (
 none) (
 BW N a c i (BD (g+(↑d.length:Int))) (BD (b+1)))) (
 c g)
def B6 (N:Nat) (a:(List (List AD))):Option (List AD):=
 BW N a (B1 N a) N 0 0
def EC (N:Nat):Option Int:=
 some (-1)
def Cm (N:Nat) (a:(List Int)) (b:(Int→Option Bool)) (c:Option Int):Nat→Int→Option Int
 |0,_=>none
 |j+1,d=>
 cond (decide (d<(↑a.length:Int))) (
 (ix a d).bind λg=>
 (b g).bind λi=>
 cond i (
 some d) (
 Cm N a b c j (BD (d+1)))) (
 c)
def Ey (N:Nat) (a:(List Int)) (b:(Int→Option Bool)):Option Int:=
 Cm N a b (EC N) N 0
def FY (N:Nat) (a:(List Int)) (b:(Int→Option Bool)):Option Bool:=
 (Ey N a b).bind λc=>
 some (decide (0≤c))
def Hv (N:Nat) (a:Int):Option Bool:=
 some (decide (0<a))
def Kk (N:Nat) (c:Int) (b:Int) (a:(List Int)):Option (List AV):=
 (cond (decide (b<0)) (some true) ((FY N a (λx=>Hv N x)).bind λg=>
 some (!g))).bind λi=>
 cond i (
 some ([]:List AV)) (
 (CX N a).bind λd=>
 chk (IX (([]:List AV).length+1) 40) <|
 some (([]:List AV)++([(⟨c,b,d⟩:AV)]:List AV)))
def Gx (N:Nat) (p0_w:AN) (a:Int) (b:AD):Option ((List (List Int))×(List Int)×(List AK)×(List AV)):=
 (ix p0_w.s.D a).bind λm=>
 (ix p0_w.s.D a).bind λj=>
 (b.take j).bind λc=>
 (ix p0_w.s.D a).bind λk=>
 (ix p0_w.s.D a).bind λl=>
 (DF N c.1).bind λg=>
 cond (decide (g≤0)) (
 some ((upd p0_w.s.D a c.2),p0_w.s.K,p0_w.moves,p0_w.sent)) (
 chk (IX (p0_w.moves.length+([(⟨p0_w.s.B,a,b.to_,b.way,c.1⟩:AK)]:List AK).length) 56) <|
 cond (decide (b.to_=(-1))) (
 (Gz N p0_w.s.K c.1).bind λi=>
 some ((upd p0_w.s.D a c.2),i,(p0_w.moves++([(⟨p0_w.s.B,a,b.to_,b.way,c.1⟩:AK)]:List AK)),p0_w.sent)) (
 (Kk N (BD ((BD (p0_w.s.B+1))+b.delay)) b.to_ c.1).bind λd=>
 chk (IX (p0_w.sent.length+d.length) 40) <|
 some ((upd p0_w.s.D a c.2),p0_w.s.K,(p0_w.moves++([(⟨p0_w.s.B,a,b.to_,b.way,c.1⟩:AK)]:List AK)),(p0_w.sent++d))))
def Gy (N:Nat) (a:EW) (b:Int×Int×Bool) (c:Int):Option (Int×Int):=
 cond (decide ((BD (b.2.1+c))<a.S)) (
 some (b.1,(BD (b.2.1+c)))) (
 some ((BD (b.1+1)),(BD ((BD (b.2.1+c))-a.S))))
def Id (N:Nat) (a:EW) (d:Int) (b:Int):Option (Int×Int):=
 (Fo N d a.Y a.S).bind λc=>
 cond (!c.2.2) (
 some (0,0)) (
 cond ((decide (0≤b))&&(decide (b<a.S))) (
 Gy N a c b) (
 Gy N a c 0))
def EA (N:Nat) (p0_w:AN) (d:Int) (o:EW) (g:List (List Int)) (i:List Int) (j:List AK) (k:List AV) (l:Int×Int) (n:(List (List Int))→(List Int)→(List AK)→(List AV)→(List Int)→Option ((List (List Int))×(List Int)×(List Int)×(List AK)×(List AV))) (c:List Int):Option ((List (List Int))×(List Int)×(List Int)×(List AK)×(List AV)):=
 (G8 N l.1).bind λm=>
 (Gx N (⟨p0_w.b,p0_w.in_,(⟨p0_w.s.B,g,c,p0_w.s.G,p0_w.s.M,p0_w.s.N,i⟩:AE),j,p0_w.peaks,k⟩:AN) d (⟨o.Ao,o.Q,(-1),(λx=>AL N m x)⟩:AD)).bind λa=>
 n a.1 a.2.1 a.2.2.1 a.2.2.2 c
def Cd (N:Nat) (p0_w:AN) (d:Int) (o:EW) (a:List (List Int)) (i:List Int) (j:List AK) (k:List AV) (g:List Int):Option ((List (List Int))×(List Int)×(List Int)×(List AK)×(List AV)):=
 (ix a d).bind λp=>
 (ix a d).bind λm=>
 (DF N m).bind λl=>
 cond (decide (0<(BD (l-o.Au)))) (
 (G8 N (BD (l-o.Au))).bind λn=>
 (Gx N (⟨p0_w.b,p0_w.in_,(⟨p0_w.s.B,a,g,p0_w.s.G,p0_w.s.M,p0_w.s.N,i⟩:AE),j,p0_w.peaks,k⟩:AN) d (⟨o.Ao,o.Q,(-2),(λx=>AL N n x)⟩:AD)).bind λc=>
 some (c.1,g,c.2.1,c.2.2.1,c.2.2.2)) (
 some (a,g,i,j,k))
def Ew (N:Nat) (p0_w:AN) (a:Int) (j:EW) (b:List (List Int)) (d:List Int) (g:List AK) (i:List AV):Option ((List (List Int))×(List Int)×(List Int)×(List AK)×(List AV)):=
 cond (decide (j.S≠0)) (
 (ix p0_w.peaks a).bind λo=>
 (ix p0_w.peaks a).bind λk=>
 (ix p0_w.s.L a).bind λp=>
 (ix p0_w.s.L a).bind λl=>
 (Id N j k l).bind λc=>
 (ix p0_w.s.L a).bind λq=>
 (ix p0_w.s.L a).bind λt=>
 (ix b a).bind λu=>
 (ix b a).bind λm=>
 (DF N m).bind λn=>
 cond (decide (c.1≤n)) (
 (ix (upd p0_w.s.L a 0) a).bind λv=>
 (ix (upd p0_w.s.L a 0) a).bind λw=>
 EA N p0_w a j b d g i c (Cd N p0_w a j) (upd (upd p0_w.s.L a 0) a c.2)) (
 EA N p0_w a j b d g i c (Cd N p0_w a j) (upd p0_w.s.L a 0))) (
 Cd N p0_w a j b d g i p0_w.s.L)
def Ck (N:Nat) (p0_w:AN) (g:Int) (d:(List AD)) (m:(List (List Int))→(List Int)→(List AK)→(List AV)→Option ((List (List Int))×(List Int)×(List Int)×(List AK)×(List AV))):Nat→Int→(List (List Int))→(List Int)→(List AK)→(List AV)→Option ((List (List Int))×(List Int)×(List Int)×(List AK)×(List AV))
 |0,_,_,_,_,_=>none
 |p+1,a,i,j,k,l=>
 cond (decide (a<(↑d.length:Int))) (
 (ix d a).bind λo=>
 (ix d a).bind λn=>
 (Gx N (⟨p0_w.b,p0_w.in_,(⟨p0_w.s.B,i,p0_w.s.L,p0_w.s.G,p0_w.s.M,p0_w.s.N,j⟩:AE),k,p0_w.peaks,l⟩:AN) g n).bind λc=>
 Ck N p0_w g d m p (BD (a+1)) c.1 c.2.1 c.2.2.1 c.2.2.2) (
 m i j k l)
def Ga (N:Nat) (p0_w:AN) (a:Int):Option ((List (List Int))×(List Int)×(List Int)×(List AK)×(List AV)):=
 (ix p0_w.b.A a).bind λi=>
 (IM N p0_w a).bind λc=>
 (IP N p0_w a).bind λd=>
 (B6 N ([c,d]:List (List AD))).bind λg=>
 Ck N p0_w a g (Ew N p0_w a i) N 0 p0_w.s.D p0_w.s.K p0_w.moves p0_w.sent
def ER (N:Nat) (k:AE) (c:(List (List Int))×(List Int)×(List AK)) (a:(List (List Int))×(List AV)×(List AT)×(List Int)) (d:List (List Int)) (g:List Int) (i:List Int) (j:List AK) (b:List AV):Option (AE×(List AK)×(List Int)):=
 chk (IX (a.2.1.length+b.length) 40) <|
 some ((⟨(BD (k.B+1)),d,g,(a.2.1++b),a.2.2.1,c.2.1,i⟩:AE),j,a.2.2.2)
def EQ (N:Nat) (c:AF) (d:Ch) (o:AE) (i:(List (List Int))×(List Int)×(List AK)) (b:(List (List Int))×(List AV)×(List AT)×(List Int)) (p:(List (List Int))→(List Int)→(List Int)→(List AK)→(List AV)→Option (AE×(List AK)×(List Int))):Nat→Int→(List (List Int))→(List Int)→(List Int)→(List AK)→(List AV)→Option (AE×(List AK)×(List Int))
 |0,_,_,_,_,_,_=>none
 |q+1,g,j,k,l,m,n=>
 cond (decide (g<(↑c.A.length:Int))) (
 (Ga N (⟨c,d,(⟨o.B,j,k,b.2.1,b.2.2.1,i.2.1,l⟩:AE),m,b.2.2.2,n⟩:AN) g).bind λa=>
 EQ N c d o i b p q (BD (g+1)) a.1 a.2.1 a.2.2.1 a.2.2.2.1 a.2.2.2.2) (
 p j k l m n)
def GF (N:Nat) (a:AF) (j:AE) (c:Ch):Option (AE×(List AK)×(List Int)):=
 (Jx N j).bind λb=>
 chk (KH (↑a.A.length:Int) (↑a.A.length:Int) 8) <|
 (GZ N (⟨a,c,b,([]:List AK),(List.replicate ((↑a.A.length:Int):Int).toNat (0:Int)),([]:List AV)⟩:AN)).bind λg=>
 (En N (⟨a,c,({ b with M:=g}:AE),([]:List AK),(List.replicate ((↑a.A.length:Int):Int).toNat (0:Int)),([]:List AV)⟩:AN)).bind λk=>
 (In N (⟨a,c,(⟨b.B,k,b.L,b.G,g,b.N,b.K⟩:AE),([]:List AK),(List.replicate ((↑a.A.length:Int):Int).toNat (0:Int)),([]:List AV)⟩:AN)).bind λd=>
 (Ex N (⟨a,c,(⟨b.B,d.1,b.L,b.G,g,d.2.1,b.K⟩:AE),d.2.2,(List.replicate ((↑a.A.length:Int):Int).toNat (0:Int)),([]:List AV)⟩:AN)).bind λi=>
 EQ N a c b d i (ER N b d i) N 0 i.1 b.L b.K d.2.2 ([]:List AV)
def JF (N:Nat) (a:List AE) (b:List AK) (c:List (List Int)):Option ((List AE)×(List AK)×(List (List Int))):=
 some (a,b,c)
def Gm (N:Nat) (c:AF) (b:(List Ch)) (k:(List AE)→(List AK)→(List (List Int))→Option ((List AE)×(List AK)×(List (List Int)))):Nat→(List AE)→(List AK)→(List (List Int))→Int→Int→(List (List Int))→(List Int)→(List AV)→(List AT)→(List Int)→(List Int)→Option ((List AE)×(List AK)×(List (List Int)))
 |0,_,_,_,_,_,_,_,_,_,_,_=>none
 |u+1,d,g,i,j,m,n,o,p,q,s,t=>
 cond (decide (j<(↑b.length:Int))) (
 (ix b j).bind λl=>
 (GF N c (⟨m,n,o,p,q,s,t⟩:AE) l).bind λa=>
 chk (IX (d.length+1) 152) <|
 chk (IX (g.length+a.2.1.length) 56) <|
 chk (IX (i.length+1) 24) <|
 Gm N c b k u (d++([a.1]:List AE)) (g++a.2.1) (i++([a.2.2]:List (List Int))) (BD (j+1)) a.1.B a.1.D a.1.L a.1.G a.1.M a.1.N a.1.K) (
 k d g i)
def IQ (N:Nat) (c:AF) (a:AE) (b:(List Ch)):Option ((List AE)×(List AK)×(List (List Int))):=
 Gm N c b (JF N) N ([]:List AE) ([]:List AK) ([]:List (List Int)) 0 a.B a.D a.L a.G a.M a.N a.K
def J3 (N:Nat) (a:List Int):Option (List Int):=
 some a
def LQ (N:Nat) (a:Int) (b:Int→(List Int)→Option (List Int)) (c:List Int):Option (List Int):=
 b (BD (a+1)) c
def Ic (N:Nat) (b:(List AK)) (c:Int) (a:Int) (d:Int) (k:(List Int)→Option (List Int)):Nat→Int→(List Int)→Option (List Int)
 |0,_,_=>none
 |o+1,j,i=>
 cond (decide (j<(↑b.length:Int))) (
 (ix b j).bind λg=>
 cond (((decide (g.J=c))&&(decide (a≤g.B)))&&(decide (g.B<d))) (
 (ix i (BD (g.B-a))).bind λp=>
 (ix i (BD (g.B-a))).bind λl=>
 (DF N g.T).bind λm=>
 (Fb N l m).bind λn=>
 (ix i (BD (g.B-a))).bind λq=>
 (ix i (BD (g.B-a))).bind λs=>
 LQ N j (Ic N b c a d k o) (upd i (BD (g.B-a)) n)) (
 LQ N j (Ic N b c a d k o) i)) (
 k i)
def Pc (N:Nat) (c:(List AK)) (d:Int) (b:Int) (a:Int):Option (List Int):=
 (GK N a b).bind λg=>
 cond ((decide (a≤b))||(decide (65536<g))) (
 some ([]:List Int)) (
 chk (KH g g 8) <|
 Ic N c d b a (J3 N) N 0 (List.replicate (g:Int).toNat (0:Int)))
def IL (N:Nat) (a:ByteArray) (i:Int) (j:Int) (c:Int→Option (Int×Int)):Nat→Int→Int→Option (Int×Int)
 |0,_,_=>none
 |k+1,d,b=>
 cond (decide (b≤i)) (
 (T9 a b).bind λg=>
 IL N a i j c k (FL .or .u64 (Di .u64 d 8) (IntKind.wrap .u64 (FL .xor .u8 g j))) (BD (b+1))) (
 c d)
def JO (N:Nat) (b:Int) (c:Int) (a:Int):Option (Int×Int):=
 cond (decide (9223372036854775807<a)) (
 some (0,0)) (
 cond (decide (c≠0)) (
 some ((BD ((BD (0-(BD a)))-1)),(BD (1+b)))) (
 some ((BD a),(BD (1+b)))))
def JP (N:Nat) (a:ByteArray) (b:Int) (c:Int):Option (Int×Int):=
 cond ((decide (8<b))||(decide ((↑a.size:Int)<(BD (1+b))))) (
 some (0,0)) (
 (cond (decide (0<b)) ((T9 a 1).bind λd=>
 some (decide (d=c))) (some false)).bind λg=>
 cond g (
 some (0,0)) (
 IL N a b c (JO N b c) N 0 1))
def MM (N:Nat) (a:ByteArray):Option (Int×Int):=
 cond (a==ByteArray.empty) (
 some (0,0)) (
 (T9 a 0).bind λb=>
 cond (decide ((BD ((BD b)-128))<0)) (
 (T9 a 0).bind λc=>
 JP N a (BD (127-(BD c))) 255) (
 JP N a (BD ((BD b)-128)) 0))
def D8 (N:Nat) (p0_r:AX):Option (Int×ByteArray×Bool):=
 cond p0_r.bad (
 some (0,p0_r.rest_,p0_r.bad)) (
 (MM N p0_r.rest_).bind λa=>
 cond (decide (a.2=0)) (
 some (0,p0_r.rest_,true)) (
 (subD p0_r.rest_ a.2).bind λb=>
 some (a.1,b,p0_r.bad)))
def KI (N:Nat) (p0_r:AX):Option Int:=
 cond p0_r.bad (
 some 0) (
 some (↑p0_r.rest_.size:Int))
def La (N:Nat) (p0_r:AX):Option (Int×Bool×ByteArray×Bool):=
 (D8 N p0_r).bind λa=>
 (cond (decide (0≤a.1)) ((KI N (⟨a.2.1,a.2.2⟩:AX)).bind λb=>
 some (decide (a.1≤b))) (some false)).bind λc=>
 some (a.1,c,a.2.1,a.2.2)
def G6 (N:Nat) (a:ByteArray) (b:Bool):Option ((List Int)×ByteArray×Bool):=
 some (([]:List Int),a,true)
def Fj (N:Nat) (c:ByteArray→Bool→Option ((List Int)×ByteArray×Bool)):Nat→(List Int)→ByteArray→Bool→Option ((List Int)×ByteArray×Bool)
 |0,_,_,_=>none
 |k+1,d,b,a=>
 cond ((!a)&&(!(b==ByteArray.empty))) (
 (T9 b 0).bind λj=>
 (subD b 1).bind λg=>
 cond (decide (j=0)) (
 some (d,g,a)) (
 cond (decide (j≠1)) (
 c g a) (
 (D8 N (⟨g,a⟩:AX)).bind λi=>
 chk (IX (d.length+1) 8) <|
 Fj N c k (d++([i.1]:List Int)) i.2.1 i.2.2))) (
 c b a)
def JL (N:Nat) (p0_r:AX):Option ((List Int)×ByteArray×Bool):=
 Fj N (G6 N) N ([]:List Int) p0_r.rest_ p0_r.bad
def F6 (N:Nat) (p0_r:AX):Option ((List Int)×ByteArray×Bool):=
 (JL N p0_r).bind λa=>
 some (a.1,a.2.1,a.2.2)
def KJ (N:Nat) (p0_r:AX):Option Bool:=
 some ((!p0_r.bad)&&(p0_r.rest_==ByteArray.empty))
def Jz (N:Nat) (g:Int×Bool×ByteArray×Bool) (l:ByteArray→Bool→(List AV)→Option (AE×Bool×ByteArray×Bool)):Nat→Int→ByteArray→Bool→(List AV)→Option (AE×Bool×ByteArray×Bool)
 |0,_,_,_,_=>none
 |m+1,i,j,k,a=>
 cond (decide (i<g.1)) (
 (D8 N (⟨j,k⟩:AX)).bind λb=>
 (D8 N (⟨b.2.1,b.2.2⟩:AX)).bind λc=>
 (F6 N (⟨c.2.1,c.2.2⟩:AX)).bind λd=>
 chk (IX (a.length+1) 40) <|
 Jz N g l m (BD (i+1)) d.2.1 d.2.2 (a++([(⟨b.1,c.1,d.1⟩:AV)]:List AV))) (
 l j k a)
def Jy (N:Nat) (g:Int×Bool×ByteArray×Bool) (l:ByteArray→Bool→(List AT)→Option (AE×Bool×ByteArray×Bool)):Nat→Int→ByteArray→Bool→(List AT)→Option (AE×Bool×ByteArray×Bool)
 |0,_,_,_,_=>none
 |m+1,i,j,k,b=>
 cond (decide (i<g.1)) (
 (D8 N (⟨j,k⟩:AX)).bind λc=>
 (D8 N (⟨c.2.1,c.2.2⟩:AX)).bind λd=>
 (D8 N (⟨d.2.1,d.2.2⟩:AX)).bind λa=>
 chk (IX (b.length+1) 24) <|
 Jy N g l m (BD (i+1)) a.2.1 a.2.2 (b++([(⟨c.1,d.1,(decide ((FL .and .i64 a.1 1)≠0)),(decide ((FL .and .i64 a.1 2)≠0))⟩:AT)]:List AT))) (
 l j k b)
def LM (N:Nat) (l:Int×ByteArray×Bool) (m:List (List Int)) (c:(List Int)×ByteArray×Bool) (d:List AV) (g:ByteArray) (i:Bool) (j:List AT):Option (AE×Bool×ByteArray×Bool):=
 (F6 N (⟨g,i⟩:AX)).bind λb=>
 (F6 N (⟨b.2.1,b.2.2⟩:AX)).bind λa=>
 (KJ N (⟨a.2.1,a.2.2⟩:AX)).bind λk=>
 some ((⟨l.1,m,c.1,d,j,b.1,a.1⟩:AE),k,a.2.1,a.2.2)
def LN (N:Nat) (d:Int×ByteArray×Bool) (g:List (List Int)) (b:(List Int)×ByteArray×Bool) (i:ByteArray) (j:Bool) (c:List AV):Option (AE×Bool×ByteArray×Bool):=
 (La N (⟨i,j⟩:AX)).bind λa=>
 cond (!a.2.1) (
 some ((⟨d.1,g,b.1,c,[],[],[]⟩:AE),false,a.2.2.1,a.2.2.2)) (
 Jy N a (LM N d g b c) N 0 a.2.2.1 a.2.2.2 ([]:List AT))
def LO (N:Nat) (c:Int×ByteArray×Bool) (g:ByteArray) (i:Bool) (d:List (List Int)):Option (AE×Bool×ByteArray×Bool):=
 (F6 N (⟨g,i⟩:AX)).bind λb=>
 (La N (⟨b.2.1,b.2.2⟩:AX)).bind λa=>
 cond (!a.2.1) (
 some ((⟨c.1,d,b.1,[],[],[],[]⟩:AE),false,a.2.2.1,a.2.2.2)) (
 Jz N a (LN N c d b) N 0 a.2.2.1 a.2.2.2 ([]:List AV))
def J0 (N:Nat) (c:Int×Bool×ByteArray×Bool) (d:ByteArray→Bool→(List (List Int))→Option (AE×Bool×ByteArray×Bool)):Nat→Int→ByteArray→Bool→(List (List Int))→Option (AE×Bool×ByteArray×Bool)
 |0,_,_,_,_=>none
 |k+1,g,i,j,a=>
 cond (decide (g<c.1)) (
 (F6 N (⟨i,j⟩:AX)).bind λb=>
 chk (IX (a.length+1) 24) <|
 J0 N c d k (BD (g+1)) b.2.1 b.2.2 (a++([b.1]:List (List Int)))) (
 d i j a)
def Pb (N:Nat) (p0_r:AX):Option (AE×Bool×ByteArray×Bool):=
 (D8 N p0_r).bind λb=>
 (La N (⟨b.2.1,b.2.2⟩:AX)).bind λa=>
 cond (!a.2.1) (
 some ((⟨b.1,[],[],[],[],[],[]⟩:AE),false,a.2.2.1,a.2.2.2)) (
 J0 N a (LO N b) N 0 a.2.2.1 a.2.2.2 ([]:List (List Int)))
def IR (N:Nat) (b:(List Int)) (a:Int):Option Bool:=
 (cond (((decide (0≤a))&&(decide (a≤16)))&&(decide ((↑b.length:Int)=a))) ((HA N b).bind λc=>
 some c) (some false)).bind λd=>
 some d
def D1 (N:Nat) (b:AF) (a:AE) (j:Int→Option (Int×Bool)):Nat→Int→Int→Option (Int×Bool)
 |0,_,_=>none
 |o+1,g,i=>
 cond (decide (i<(↑a.G.length:Int))) (
 (ix a.G i).bind λd=>
 (cond (decide (d.Am<a.B)) (some true) ((GY N d.C (↑b.A.length:Int)).bind λk=>
 some (!k))).bind λl=>
 (cond l (some true) ((IR N d.T (↑b.H.length:Int)).bind λm=>
 some (!m))).bind λn=>
 cond n (
 some (0,false)) (
 (DF N d.T).bind λc=>
 cond ((decide (c≤0))||(decide (1125899906842624<(BD (g+c))))) (
 some (0,false)) (
 D1 N b a j o (BD (g+c)) (BD (i+1))))) (
 j g)
def GA (N:Nat) (a:Int):Option (Int×Bool):=
 some (a,true)
def Ct (N:Nat) (a:AF) (b:AE) (c:Int):Option (Int×Bool):=
 D1 N a b (GA N) N c 0
def DA (N:Nat) (b:AF) (a:AE) (g:Int→Option (Int×Bool)):Nat→Int→Int→Option (Int×Bool)
 |0,_,_=>none
 |l+1,c,d=>
 cond (decide (d<(↑a.D.length:Int))) (
 (ix a.D d).bind λi=>
 (IR N i (↑b.H.length:Int)).bind λk=>
 cond (!k) (
 some (0,false)) (
 (DF N i).bind λj=>
 cond (decide (1125899906842624<(BD (c+j)))) (
 some (0,false)) (
 DA N b a g l (BD (c+j)) (BD (d+1))))) (
 g c)
def Ia (N:Nat) (a:AF) (b:AE):Option (Int×Bool):=
 DA N a b (Ct N a b) N 0 0
def FX (N:Nat) (a:Int):Option (Int×Bool):=
 some (a,true)
def DW (N:Nat) (b:(List Int)) (a:Int) (g:Int→Option (Int×Bool)):Nat→Int→Int→Option (Int×Bool)
 |0,_,_=>none
 |j+1,i,c=>
 cond (decide (c<(↑b.length:Int))) (
 (ix b c).bind λd=>
 cond ((decide (d<0))||(decide ((BD (a-i))<d))) (
 some (0,false)) (
 DW N b a g j (BD (i+d)) (BD (c+1)))) (
 g i)
def HG (N:Nat) (b:(List Int)) (a:Int):Option (Int×Bool):=
 DW N b a (FX N) N 0 0
def DU (N:Nat) (d:AF) (g:AE) (i:Option Bool):Nat→Int→Option Bool
 |0,_=>none
 |j+1,b=>
 cond (decide (b<(↑d.E.length:Int))) (
 (ix d.E b).bind λc=>
 (ix g.M b).bind λa=>
 cond ((((decide (a.V<0))||(decide (c.U<a.V)))||(decide (a.W<0)))||(decide (c.U<a.W))) (
 some false) (
 cond ((a.Ai&&(decide (c.F≠5)))&&(decide (c.F≠3))) (
 some false) (
 DU N d g i j (BD (b+1))))) (
 i)
def DC (N:Nat) (d:AF) (a:AE):Option Bool:=
 (Ia N d a).bind λb=>
 cond (!b.2) (
 some false) (
 (HG N a.N 1152921504606846976).bind λc=>
 cond (!c.2) (
 some false) (
 (HG N a.K (BD ((BD (c.1+1125899906842624))-b.1))).bind λg=>
 some g.2))
def DD (N:Nat) (a:AF) (b:AE):Option Bool:=
 DU N a b (DC N a b) N 0
def DV (N:Nat) (a:AF) (b:AE) (d:Option Bool):Nat→Int→Option Bool
 |0,_=>none
 |l+1,c=>
 cond (decide (c<(↑a.A.length:Int))) (
 (ix a.A c).bind λk=>
 (ix b.L c).bind λg=>
 (cond (decide (g<0)) (some true) ((ix b.L c).bind λi=>
 some (decide ((max 0 (BD (k.S-1)))<i)))).bind λj=>
 cond j (
 some false) (
 DV N a b d l (BD (c+1)))) (
 d)
def Hc (N:Nat) (b:AF) (a:AE):Option Bool:=
 cond (((((((decide (a.B<0))||(decide (16777216<a.B)))||(decide ((↑a.D.length:Int)≠(↑b.A.length:Int))))||(decide ((↑a.L.length:Int)≠(↑b.A.length:Int))))||(decide ((↑a.M.length:Int)≠(↑b.E.length:Int))))||(decide ((↑a.N.length:Int)≠(↑b.H.length:Int))))||(decide ((↑a.K.length:Int)≠(↑b.H.length:Int)))) (
 some false) (
 DV N b a (DD N b a) N 0)
def EB (N:Nat):Nat→Int→Int→(List Int)→Option (List Int)
 |0,_,_,_=>none
 |i+1,b,c,a=>
 cond (decide (b<c)) (
 (ix a c).bind λj=>
 (ix a c).bind λd=>
 (ix a b).bind λk=>
 (ix a b).bind λg=>
 (ix a b).bind λl=>
 (ix a b).bind λm=>
 (ix (upd a b d) c).bind λn=>
 (ix (upd a b d) c).bind λo=>
 EB N i (BD (b+1)) (BD (c-1)) (upd (upd a b d) c g)) (
 some a)
def Hs (N:Nat) (a:(List Int)):Option (List Int):=
 EB N N 0 (BD ((↑a.length:Int)-1)) a
def Jf (N:Nat) (a:Int) (b:Int) (c:List Int):Option (List Int):=
 chk (IX (c.length+1) 1) <|
 (Hs N (c++([(IntKind.wrap .u8 (BD (a+(BD (b*(↑c.length:Int))))))]:List Int))).bind λd=>
 some d
def Im (N:Nat) (a:Int) (d:(List Int)→Option (List Int)):Nat→Int→(List Int)→Option (List Int)
 |0,_,_=>none
 |g+1,b,c=>
 cond (decide (0<b)) (
 chk (IX (c.length+1) 1) <|
 Im N a d g (EY .u64 b 8) (c++([(FL .xor .u8 (IntKind.wrap .u8 b) a)]:List Int))) (
 d c)
def LI (N:Nat) (d:Int) (a:Int) (b:Int) (c:Int):Option (List Int):=
 chk (KH 0 9 1) <|
 Im N c (Jf N a b) N d (List.replicate (0:Int).toNat (0:Int))
def HR (N:Nat) (a:Int):Option ByteArray:=
 cond (decide (0≤a)) (
 (LI N (IntKind.wrap .u64 a) 128 1 0).bind λg=>
 (nE g).bind λb=>
 some b) (
 (LI N (IntKind.wrap .u64 (BD (0-(BD (a+1))))) 127 (-1) 255).bind λc=>
 (nE c).bind λd=>
 some d)
def G7 (N:Nat) (c:ByteArray):Option ByteArray:=
 (mB N c 0).bind λa=>
 (mA N a).bind λb=>
 some b
def Fk (N:Nat) (a:(List Int)) (c:ByteArray→Option ByteArray):Nat→Int→ByteArray→Option ByteArray
 |0,_,_=>none
 |l+1,b,d=>
 cond (decide (b<(↑a.length:Int))) (
 (ix a b).bind λg=>
 (mB N d 1).bind λi=>
 (HR N g).bind λj=>
 (PG N i j).bind λk=>
 Fk N a c l (BD (b+1)) k) (
 c d)
def JM (N:Nat) (a:(List Int)):Option ByteArray:=
 Fk N a (G7 N) N 0 ByteArray.empty
def JT (N:Nat) (a:(List Int)):Option ByteArray:=
 (JM N a).bind λb=>
 some b
def JV (N:Nat) (a:AE) (g:ByteArray→Option ByteArray):Nat→Int→ByteArray→Option ByteArray
 |0,_,_=>none
 |o+1,b,d=>
 cond (decide (b<(↑a.G.length:Int))) (
 (ix a.G b).bind λc=>
 (HR N c.Am).bind λi=>
 (PG N d i).bind λj=>
 (HR N c.C).bind λk=>
 (PG N j k).bind λl=>
 (JT N c.T).bind λm=>
 (PG N l m).bind λn=>
 JV N a g o (BD (b+1)) n) (
 g d)
def Kg (N:Nat) (b:Int) (c:ByteArray) (a:AT) (n:Int→ByteArray→Option ByteArray) (d:Int):Option ByteArray:=
 (HR N a.V).bind λg=>
 (PG N c g).bind λi=>
 (HR N a.W).bind λj=>
 (PG N i j).bind λk=>
 (HR N d).bind λl=>
 (PG N k l).bind λm=>
 n (BD (b+1)) m
def Kh (N:Nat) (b:Int) (c:ByteArray) (a:AT) (g:Int→ByteArray→Option ByteArray) (d:Int):Option ByteArray:=
 cond a.Ai (
 Kg N b c a g (BD (d+2))) (
 Kg N b c a g d)
def HI (N:Nat) (a:AE) (g:ByteArray→Option ByteArray):Nat→Int→ByteArray→Option ByteArray
 |0,_,_=>none
 |i+1,b,c=>
 cond (decide (b<(↑a.M.length:Int))) (
 (ix a.M b).bind λd=>
 cond d.At (
 Kh N b c d (HI N a g i) (BD (0+1))) (
 Kh N b c d (HI N a g i) 0)) (
 g c)
def Iq (N:Nat) (a:AE) (b:ByteArray):Option ByteArray:=
 (JT N a.N).bind λc=>
 (PG N b c).bind λd=>
 (JT N a.K).bind λg=>
 (PG N d g).bind λi=>
 (mA N i).bind λj=>
 some j
def Ki (N:Nat) (a:AE) (b:ByteArray):Option ByteArray:=
 (HR N (↑a.M.length:Int)).bind λc=>
 (PG N b c).bind λd=>
 HI N a (Iq N a) N 0 d
def Kj (N:Nat) (a:AE) (i:ByteArray):Option ByteArray:=
 (JT N a.L).bind λb=>
 (PG N i b).bind λc=>
 (HR N (↑a.G.length:Int)).bind λd=>
 (PG N c d).bind λg=>
 JV N a (Ki N a) N 0 g
def JW (N:Nat) (a:AE) (c:ByteArray→Option ByteArray):Nat→Int→ByteArray→Option ByteArray
 |0,_,_=>none
 |k+1,b,d=>
 cond (decide (b<(↑a.D.length:Int))) (
 (ix a.D b).bind λg=>
 (JT N g).bind λi=>
 (PG N d i).bind λj=>
 JW N a c k (BD (b+1)) j) (
 c d)
def Mr (N:Nat) (a:AE):Option ByteArray:=
 (HR N a.B).bind λb=>
 (PG N ByteArray.empty b).bind λc=>
 (HR N (↑a.D.length:Int)).bind λd=>
 (PG N c d).bind λg=>
 JW N a (Kj N a) N 0 g
def Nd (N:Nat) (c:AF) (b:ByteArray):Option (AE×Bool):=
 (fD N b).bind λd=>
 (Pb N d).bind λa=>
 (cond (!a.2.1) (some true) ((Hc N c a.1).bind λg=>
 some (!g))).bind λi=>
 (cond i (some true) ((Mr N a.1).bind λj=>
 some (!(j==b)))).bind λk=>
 cond k (
 some ((⟨0,[],[],[],[],[],[]⟩:AE),false)) (
 some (a.1,true))
def Ib (N:Nat) (b:AF) (a:Int):Option Bool:=
 some ((decide (0≤a))&&(decide (a<(↑b.A.length:Int))))
def IE (N:Nat) (b:Int) (a:Int):Option (Int×Int):=
 some (b,a)
def ID (N:Nat) (a:Int) (b:Int→Int→Int→Option (Int×Int)) (c:Int) (d:Int):Option (Int×Int):=
 b c d (BD (a+1))
def KB (N:Nat) (a:Int) (b:Int) (c:AK) (k:EW) (l:Bool) (d:Int→Int→Option (Int×Int)) (g:Int):Option (Int×Int):=
 cond (((decide (k.An=a))&&(!l))&&(decide (c.Ba≠(-3)))) (
 (DF N c.T).bind λi=>
 (Fb N b i).bind λj=>
 d g j) (
 d g b)
def Fw (N:Nat) (c:AF) (b:(List AK)) (a:Int) (i:Int→Int→Option (Int×Int)):Nat→Int→Int→Int→Option (Int×Int)
 |0,_,_,_=>none
 |p+1,j,k,g=>
 cond (decide (g<(↑b.length:Int))) (
 (ix b g).bind λd=>
 (Ib N c d.J).bind λq=>
 (cond (!q) (some true) ((cond (decide (d.C≠(-1))) ((Ib N c d.C).bind λs=>
 some (!s)) (some false)).bind λt=>
 some t)).bind λu=>
 cond u (
 ID N g (Fw N c b a i p) j k) (
 (ix c.A d.J).bind λl=>
 (cond (decide (d.C≠(-1))) ((ix c.A d.C).bind λv=>
 some (decide (v.An=a))) (some false)).bind λm=>
 cond ((!(decide (l.An=a)))&&m) (
 (DF N d.T).bind λn=>
 (Fb N j n).bind λo=>
 KB N a k d l m (ID N g (Fw N c b a i p)) o) (
 KB N a k d l m (ID N g (Fw N c b a i p)) j))) (
 i j k)
def Nf (N:Nat) (c:AF) (b:(List AK)) (a:Int):Option (Int×Int):=
 Fw N c b a (IE N) N 0 0 0
def CV (N:Nat) (c:Int) (b:Int) (a:Int):Option Bool:=
 some ((decide (b≤c))&&(decide (c≤a)))
def CJ (N:Nat) (a:Int):Option Bool:=
 (CV N a 0 1125899906842624).bind λb=>
 some b
def ED (N:Nat) (a:AF) (c:Option Bool):Nat→Int→Option Bool
 |0,_=>none
 |i+1,b=>
 cond (decide (b<(↑a.Ak.length:Int))) (
 (ix a.Ak b).bind λd=>
 (CJ N d).bind λg=>
 cond (!g) (
 some false) (
 ED N a c i (BD (b+1)))) (
 c)
def GT (N:Nat):Option Bool:=
 some true
def EF (N:Nat) (a:AF):Option Bool:=
 ED N a (GT N) N 0
def EE (N:Nat) (a:AF) (d:Option Bool):Nat→Int→Option Bool
 |0,_=>none
 |g+1,c=>
 cond (decide (c<(↑a.I.size:Int))) (
 (T9 a.I c).bind λb=>
 cond ((((decide (b<32))||(decide (126<b)))||(decide (b=34)))||(decide (b=92))) (
 some false) (
 EE N a d g (BD (c+1)))) (
 d)
def IT (N:Nat) (a:AF):Option Bool:=
 (cond (decide (500<(↑a.I.size:Int))) (some true) ((CV N (↑a.H.length:Int) 1 16).bind λb=>
 some (!b))).bind λc=>
 (cond c (some true) ((CV N a.O 0 64).bind λd=>
 some (!d))).bind λg=>
 (cond g (some true) ((CV N (↑a.A.length:Int) 1 64).bind λi=>
 some (!i))).bind λj=>
 (cond ((((((j||(decide (96<(↑a.E.length:Int))))||(decide (40<(↑a.Ab.length:Int))))||(decide (128<(↑a.Ad.length:Int))))||(decide (128<(↑a.Ae.length:Int))))||(decide (40<(↑a.Ag.length:Int))))||(decide ((↑a.Ak.length:Int)≠3))) (some true) ((CV N a.R 0 1099511627776).bind λk=>
 some (!k))).bind λl=>
 cond l (
 some false) (
 EE N a (EF N a) N 0)
def HO (N:Nat):Option Bool:=
 some true
def Fd (N:Nat) (a:ByteArray) (d:Option Bool):Nat→Int→Option Bool
 |0,_=>none
 |g+1,c=>
 cond (decide (c<(↑a.size:Int))) (
 (T9 a c).bind λb=>
 cond ((((decide (b<97))||(decide (122<b)))&&((decide (b<48))||(decide (57<b))))&&(decide (b≠95))) (
 some false) (
 Fd N a d g (BD (c+1)))) (
 d)
def JZ (N:Nat) (a:ByteArray):Option Bool:=
 (cond (((decide ((↑a.size:Int)<1))||(decide (24<(↑a.size:Int))))||(a==(ByteArray.mk #[111,117,116]))) (some true) ((T9 a 0).bind λb=>
 some (decide (b<97)))).bind λc=>
 (cond c (some true) ((T9 a 0).bind λd=>
 some (decide (122<d)))).bind λg=>
 cond g (
 some false) (
 Fd N a (HO N) N 1)
def Hr (N:Nat) (a:(List (AG×Bool))) (b:ByteArray) (d:ByteArray):Option (Bool×(List (AG×Bool))):=
 (JZ N b).bind λc=>
 cond ((!c)||((NC (λk:AG=>Value.agg (AG.v k).toArray) a (⟨d,b⟩:AG)).getD false)) (
 some (false,a)) (
 some (true,(Qg (λk:AG=>Value.agg (AG.v k).toArray) a (⟨d,b⟩:AG) true)))
def J5 (N:Nat) (a:(List (AG×Bool))) (b:ByteArray) (c:ByteArray):Option (Bool×(List (AG×Bool))):=
 cond (b==(ByteArray.mk #[115,104,101,108,116,101,114])) (
 Hr N a c (ByteArray.mk #[116,111,119,110])) (
 Hr N a c b)
def Cs (N:Nat) (c2_:(List (AG×Bool))) (c3_:Bool) (a:ByteArray) (b:ByteArray):Option ((List (AG×Bool))×Bool):=
 (J5 N c2_ a b).bind λc=>
 some (c.2,(c.1&&c3_))
def DJ (N:Nat) (a:AF) (d:Bool→((List (AG×Bool)))→Option Bool):Nat→Int→Bool→((List (AG×Bool)))→Option Bool
 |0,_,_,_=>none
 |k+1,c,g,i=>
 cond (decide (c<(↑a.A.length:Int))) (
 (ix a.A c).bind λj=>
 (Cs N i g (ByteArray.mk #[112,108,97,99,101]) j.I).bind λb=>
 DJ N a d k (BD (c+1)) b.2 b.1) (
 d g i)
def DI (N:Nat) (a:AF) (i:Bool→((List (AG×Bool)))→Option Bool):Nat→Int→Bool→((List (AG×Bool)))→Option Bool
 |0,_,_,_=>none
 |k+1,b,c,d=>
 cond (decide (b<(↑a.E.length:Int))) (
 (ix a.E b).bind λj=>
 (Cs N d c (ByteArray.mk #[108,105,110,107]) j.I).bind λg=>
 DI N a i k (BD (b+1)) g.2 g.1) (
 i c d)
def DH (N:Nat) (a:AF) (i:Bool→((List (AG×Bool)))→Option Bool):Nat→Int→Bool→((List (AG×Bool)))→Option Bool
 |0,_,_,_=>none
 |k+1,b,c,d=>
 cond (decide (b<(↑a.Ab.length:Int))) (
 (ix a.Ab b).bind λj=>
 (Cs N d c (ByteArray.mk #[116,111,119,110]) j.I).bind λg=>
 DH N a i k (BD (b+1)) g.2 g.1) (
 i c d)
def DG (N:Nat) (a:AF) (i:Bool→((List (AG×Bool)))→Option Bool):Nat→Int→Bool→((List (AG×Bool)))→Option Bool
 |0,_,_,_=>none
 |k+1,b,c,d=>
 cond (decide (b<(↑a.Ag.length:Int))) (
 (ix a.Ag b).bind λj=>
 (Cs N d c (ByteArray.mk #[115,104,101,108,116,101,114]) j.I).bind λg=>
 DG N a i k (BD (b+1)) g.2 g.1) (
 i c d)
def C4 (N:Nat) (a:AF) (c:Bool→((List (AG×Bool)))→Option Bool):Nat→Int→Bool→((List (AG×Bool)))→Option Bool
 |0,_,_,_=>none
 |k+1,b,d,g=>
 cond (decide (b<(↑a.Ad.length:Int))) (
 (ix a.Ad b).bind λj=>
 (Cs N g d (ByteArray.mk #[103,97,117,103,101]) j.I).bind λi=>
 C4 N a c k (BD (b+1)) i.2 i.1) (
 c d g)
def C3 (N:Nat) (a:AF) (c:Bool→Option Bool):Nat→Int→Bool→((List (AG×Bool)))→Option Bool
 |0,_,_,_=>none
 |k+1,b,d,i=>
 cond (decide (b<(↑a.Ae.length:Int))) (
 (ix a.Ae b).bind λj=>
 (Cs N i d (ByteArray.mk #[114,111,97,100]) j.I).bind λg=>
 C3 N a c k (BD (b+1)) g.2 g.1) (
 c d)
def EL (N:Nat) (a:Bool):Option Bool:=
 some a
def EM (N:Nat) (a:AF) (b:Bool) (c:(List (AG×Bool))):Option Bool:=
 C3 N a (EL N) N 0 b c
def Eh (N:Nat) (a:AF) (b:Bool) (c:(List (AG×Bool))):Option Bool:=
 C4 N a (EM N a) N 0 b c
def Ei (N:Nat) (a:AF) (b:Bool) (c:(List (AG×Bool))):Option Bool:=
 DG N a (Eh N a) N 0 b c
def Ej (N:Nat) (a:AF) (b:Bool) (c:(List (AG×Bool))):Option Bool:=
 DH N a (Ei N a) N 0 b c
def Ek (N:Nat) (a:AF) (b:Bool) (c:(List (AG×Bool))):Option Bool:=
 DI N a (Ej N a) N 0 b c
def El (N:Nat) (a:AF) (b:Bool) (c:(List (AG×Bool))):Option Bool:=
 DJ N a (Ek N a) N 0 b c
def DK (N:Nat) (a:AF) (c:Bool→((List (AG×Bool)))→Option Bool):Nat→Int→Bool→((List (AG×Bool)))→Option Bool
 |0,_,_,_=>none
 |k+1,b,d,g=>
 cond (decide (b<(↑a.H.length:Int))) (
 (ix a.H b).bind λj=>
 (Cs N g d (ByteArray.mk #[111,119,110,101,114]) j).bind λi=>
 DK N a c k (BD (b+1)) i.2 i.1) (
 c d g)
def I8 (N:Nat) (a:AF):Option Bool:=
 DK N a (El N a) N 0 true ([]:(List (AG×Bool)))
def G2 (N:Nat) (a:Int) (b:Int):Option Bool:=
 (CJ N a).bind λc=>
 (cond c ((CJ N b).bind λd=>
 some d) (some false)).bind λg=>
 some (g&&((decide (b≠0))||(decide (a=0))))
def E8 (N:Nat) (b:Int) (a:Int):Option Bool:=
 (CV N b 0 (BD (a-1))).bind λc=>
 some c
def Iw (N:Nat) (c:AF) (b:Int) (a:Int):Option Bool:=
 (cond (decide (a=(-1))) (some true) ((E8 N a (↑c.A.length:Int)).bind λd=>
 some (d&&(decide (a≠b))))).bind λg=>
 some g
def B7 (N:Nat) (a:Int):Option Bool:=
 some (decide (a≤1125899906842624))
def C2 (N:Nat) (d:EW) (g:Int→Option Bool):Nat→Int→Int→Option Bool
 |0,_,_=>none
 |j+1,b,a=>
 cond (decide (a<(↑d.Be.length:Int))) (
 (ix d.Be a).bind λc=>
 (CJ N c).bind λi=>
 cond (!i) (
 some false) (
 C2 N d g j (BD (b+c)) (BD (a+1)))) (
 g b)
def C1 (N:Nat) (c:AF) (g:EW) (d:Int) (i:Int→Option Bool):Nat→Int→Int→Option Bool
 |0,_,_=>none
 |m+1,j,b=>
 cond (decide (b<(↑g.Z.length:Int))) (
 (ix g.Z b).bind λa=>
 (cond ((decide (a.Bh≤j))||(decide (c.O≤a.Bh))) (some true) ((CJ N a.Bm).bind λk=>
 some (!k))).bind λl=>
 cond l (
 some false) (
 C1 N c g d i m a.Bh (BD (b+1)))) (
 i d)
def EK (N:Nat) (a:AF) (c:EW) (d:Int→Option Bool) (b:Int):Option Bool:=
 C1 N a c b d N (-1) 0
def Ca (N:Nat) (a:Int) (b:Int→Int→Option Bool) (c:Int):Option Bool:=
 b c (BD (a+1))
def Bv (N:Nat) (b:AF) (d:Int→Option Bool):Nat→Int→Int→Option Bool
 |0,_,_=>none
 |y+1,g,c=>
 cond (decide (c<(↑b.A.length:Int))) (
 (ix b.A c).bind λa=>
 (CV N a.F 0 3).bind λj=>
 (cond (!j) (some true) ((CV N a.An 0 2).bind λk=>
 some (!k))).bind λl=>
 (cond l (some true) ((CV N a.Q 0 240).bind λm=>
 some (!m))).bind λn=>
 (cond n (some true) ((CJ N a.Au).bind λo=>
 some (!o))).bind λp=>
 (cond p (some true) ((CJ N a.Bf).bind λq=>
 some (!q))).bind λs=>
 (cond s (some true) ((Eb N a.Bn).bind λt=>
 some (!t))).bind λu=>
 (cond (u||(decide ((↑a.Be.length:Int)≠(↑b.H.length:Int)))) (some true) ((G2 N a.Y a.S).bind λv=>
 some (!v))).bind λw=>
 (cond w (some true) ((Iw N b c a.Ao).bind λi=>
 some (!i))).bind λx=>
 cond x (
 some false) (
 C2 N a (EK N b a (Ca N c (Bv N b d y))) N g 0)) (
 d g)
def HZ (N:Nat) (a:AF):Option Bool:=
 Bv N a (B7 N) N 0 0
def GL (N:Nat) (b:(List BS)) (a:(List BS)) (i:Option Bool):Nat→Int→Option Bool
 |0,_=>none
 |j+1,c=>
 cond (decide (c<(↑a.length:Int))) (
 (ix a c).bind λd=>
 (Ie N b d.P).bind λg=>
 cond ((decide (d.X<g.1))||((decide (g.1=d.X))&&g.2)) (
 some false) (
 GL N b a i j (BD (c+1)))) (
 i)
def Hq (N:Nat):Option Bool:=
 some true
def GN (N:Nat) (a:(List BS)) (b:(List BS)):Option Bool:=
 GL N a b (Hq N) N 0
def GM (N:Nat) (a:(List BS)) (b:(List BS)) (d:Option Bool):Nat→Int→Option Bool
 |0,_=>none
 |j+1,c=>
 cond (decide (c<(↑a.length:Int))) (
 (ix a c).bind λg=>
 (Ie N b g.P).bind λi=>
 cond (decide (i.1<g.X)) (
 some false) (
 GM N a b d j (BD (c+1)))) (
 d)
def Hm (N:Nat) (a:(List BS)) (b:(List BS)):Option Bool:=
 (Eb N a).bind λc=>
 (cond (!c) (some true) ((Eb N b).bind λd=>
 some (!d))).bind λg=>
 cond g (
 some false) (
 GM N a b (GN N a b) N 0)
def Dg (N:Nat) (a:BM) (b:Bool):Option Bool:=
 cond b (
 (CJ N a.Bc).bind λc=>
 (cond c ((CJ N a.Y).bind λd=>
 some d) (some false)).bind λg=>
 (cond g ((CV N a.S 1 1125899906842624).bind λi=>
 some i) (some false)).bind λj=>
 some j) (
 cond (decide (a.F=2)) (
 (CJ N a.Y).bind λk=>
 (cond k ((CV N a.U 1 64).bind λl=>
 some l) (some false)).bind λm=>
 (cond m ((CV N a.Ac 0 a.U).bind λn=>
 some n) (some false)).bind λo=>
 some o) (
 cond (decide (a.F=3)) (
 (CJ N a.Y).bind λp=>
 (cond p ((CV N a.S 1 1125899906842624).bind λq=>
 some q) (some false)).bind λs=>
 (cond s ((CJ N a.Aw).bind λt=>
 some t) (some false)).bind λu=>
 (cond u ((CJ N a.Ax).bind λv=>
 some v) (some false)).bind λw=>
 some (w&&(decide (a.Ax<a.Aw)))) (
 (CJ N a.Y).bind λx=>
 (cond x ((CV N a.S 1 1125899906842624).bind λy=>
 some y) (some false)).bind λz=>
 (cond z ((G2 N a.Ar a.Al).bind λA=>
 some A) (some false)).bind λB=>
 some (B&&(decide (a.C≠(-1)))))))
def FU (N:Nat) (a:BM):Option Bool:=
 cond (decide (a.F=0)) (
 (Eb N a.Av).bind λb=>
 (cond b ((Eb N a.Af.Ay).bind λc=>
 some c) (some false)).bind λd=>
 (cond d ((Eb N a.Af.Az).bind λg=>
 some g) (some false)).bind λi=>
 (cond i ((Hm N a.Af.Ay a.Av).bind λj=>
 some j) (some false)).bind λk=>
 (cond k ((Hm N a.Av a.Af.Az).bind λl=>
 some l) (some false)).bind λm=>
 (cond m ((CV N a.U 0 64).bind λn=>
 some n) (some false)).bind λo=>
 (cond o ((CV N a.Ac 0 a.U).bind λp=>
 some p) (some false)).bind λq=>
 (cond q ((CJ N a.Bb).bind λs=>
 some s) (some false)).bind λt=>
 (cond t ((G2 N a.Ar a.Al).bind λu=>
 some u) (some false)).bind λv=>
 some (v&&((decide (a.C≠(-1)))||(decide (a.Al=0))))) (
 cond (decide (a.F=1)) (
 Dg N a (decide (a.F=1))) (
 Dg N a (decide (a.F=5))))
def FT (N:Nat) (a:BM):Option Bool:=
 cond ((!(decide (a.F=0)))&&((((decide (0<(↑a.Av.length:Int)))||(decide (0<(↑a.Af.Ay.length:Int))))||(decide (0<(↑a.Af.Az.length:Int))))||(decide (a.Bb≠0)))) (
 some false) (
 cond (((!(decide (a.F=0)))&&(decide (a.F≠2)))&&((decide (a.U≠0))||(decide (a.Ac≠0)))) (
 some false) (
 cond (((decide (a.F≠1))&&(decide (a.F≠5)))&&(decide (a.Bc≠0))) (
 some false) (
 cond (((decide (a.F=0))&&(decide (a.Y≠0)))||(((decide (a.F=0))||(decide (a.F=2)))&&(decide (a.S≠0)))) (
 some false) (
 cond ((decide (a.F≠3))&&((decide (a.Aw≠0))||(decide (a.Ax≠0)))) (
 some false) (
 some (((decide (a.F=0))||(decide (a.F=4)))||((decide (a.Ar=0))&&(decide (a.Al=0)))))))))
def DL (N:Nat):Option Bool:=
 some true
def CW (N:Nat) (a:AF) (d:Option Bool):Nat→Int→Option Bool
 |0,_=>none
 |t+1,c=>
 cond (decide (c<(↑a.E.length:Int))) (
 (ix a.E c).bind λb=>
 (CV N b.F 0 5).bind λg=>
 (cond (!g) (some true) ((E8 N b.J (↑a.A.length:Int)).bind λi=>
 some (!i))).bind λj=>
 (cond j (some true) ((Iw N a b.J b.C).bind λk=>
 some (!k))).bind λl=>
 (cond l (some true) ((CV N b.Q 0 240).bind λm=>
 some (!m))).bind λn=>
 (cond n (some true) ((FU N b).bind λo=>
 some (!o))).bind λp=>
 (cond p (some true) ((FT N b).bind λq=>
 some (!q))).bind λs=>
 cond s (
 some false) (
 CW N a d t (BD (c+1)))) (
 d)
def E2 (N:Nat) (a:AF):Option Bool:=
 CW N a (DL N) N 0
def Jl (N:Nat) (c:AF) (a:Int) (b:Int):Option Bool:=
 cond (decide (b=(-1))) (
 some (decide (a=2))) (
 (ix c.A b).bind λd=>
 some ((decide (d.An=a))||(decide (d.An=(BD (a+1))))))
def DM (N:Nat) (a:AF) (g:Option Bool):Nat→Int→Option Bool
 |0,_=>none
 |m+1,d=>
 cond (decide (d<(↑a.E.length:Int))) (
 (ix a.E d).bind λb=>
 (ix a.A b.J).bind λc=>
 (Jl N a c.An b.C).bind λi=>
 (cond (!i) (some true) ((cond (decide (b.F=4)) ((ix a.A b.C).bind λj=>
 some (decide (j.An≠c.An))) (some false)).bind λk=>
 some k)).bind λl=>
 cond l (
 some false) (
 DM N a g m (BD (d+1)))) (
 g)
def Es (N:Nat):Option Bool:=
 some true
def DO (N:Nat) (a:AF):Option Bool:=
 DM N a (Es N) N 0
def DN (N:Nat) (a:AF) (c:Option Bool):Nat→Int→Option Bool
 |0,_=>none
 |i+1,b=>
 cond (decide (b<(↑a.A.length:Int))) (
 (ix a.A b).bind λd=>
 (Jl N a d.An d.Ao).bind λg=>
 cond (!g) (
 some false) (
 DN N a c i (BD (b+1)))) (
 c)
def HK (N:Nat) (a:AF):Option Bool:=
 DN N a (DO N a) N 0
def Jk (N:Nat) (a:Int):Option Int:=
 some (BD a)
def Fp (N:Nat) (b:Int) (a:Int):Option Int:=
 cond (decide (a=0)) (
 some 0) (
 cond (decide (a<b)) (
 some 1099511627777) (
 (HN N (IntKind.wrap .u64 b) 1099511627776).bind λd=>
 (Fa N d.1 d.2 (IntKind.wrap .u64 a)).bind λc=>
 cond (decide (c.2≠0)) (
 Jk N (IntKind.wrap .u64 (c.1+1))) (
 Jk N c.1)))
def Dz (N:Nat) (a:Int):Option Int:=
 some a
def Ef (N:Nat) (a:(List BS)) (c:Int→Option Int):Nat→Int→Int→Option Int
 |0,_,_=>none
 |m+1,d,b=>
 cond (decide (b<(↑a.length:Int))) (
 (ix a b).bind λg=>
 (ix a (BD (b-1))).bind λi=>
 (ix a b).bind λj=>
 (ix a (BD (b-1))).bind λk=>
 (Fp N (BD (g.X-i.X)) (BD (j.P-k.P))).bind λl=>
 Ef N a c m (max d l) (BD (b+1))) (
 c d)
def FQ (N:Nat) (a:Int) (b:Int→Int→Option Int) (c:Int):Option Int:=
 b c (BD (a+1))
def Cx (N:Nat) (a:(List (List BS))) (c:Int→Option Int):Nat→Int→Int→Option Int
 |0,_,_=>none
 |i+1,g,b=>
 cond (decide (b<(↑a.length:Int))) (
 (ix a b).bind λd=>
 Ef N d (FQ N b (Cx N a c i)) N g 1) (
 c g)
def Ix (N:Nat) (a:(List (List BS))):Option Int:=
 Cx N a (Dz N) N 0 0
def CL (N:Nat) (b:Int) (c:Int→(List Int)→Option Bool) (a:List Int):Option Bool:=
 c (BD (b+1)) a
def Dc (N:Nat) (b:List Int) (a:BM) (g:(List Int)→Option Bool) (i:Bool):Option Bool:=
 cond i (
 (ix b a.J).bind λn=>
 (ix b a.J).bind λj=>
 (Fp N a.Y a.S).bind λk=>
 (ix b a.J).bind λo=>
 (ix b a.J).bind λp=>
 g (upd b a.J (BD (j+k)))) (
 cond (decide (a.F=4)) (
 (ix b a.J).bind λq=>
 (ix b a.J).bind λc=>
 (Fp N a.Y a.S).bind λd=>
 (ix b a.J).bind λs=>
 (ix b a.J).bind λt=>
 (ix (upd b a.J (BD (c+(BD (2*d))))) a.C).bind λu=>
 (ix (upd b a.J (BD (c+(BD (2*d))))) a.C).bind λl=>
 (Fp N a.Ar a.Al).bind λm=>
 (ix (upd b a.J (BD (c+(BD (2*d))))) a.C).bind λv=>
 (ix (upd b a.J (BD (c+(BD (2*d))))) a.C).bind λw=>
 g (upd (upd b a.J (BD (c+(BD (2*d))))) a.C (BD (l+(BD (2*m)))))) (
 g b))
def Hf (N:Nat) (b:Bool→Option Bool) (a:Bool):Option Bool:=
 b a
def BU (N:Nat) (c:AF) (j:(List Int)→Option Bool):Nat→Int→(List Int)→Option Bool
 |0,_,_=>none
 |k+1,i,b=>
 cond (decide (i<(↑c.E.length:Int))) (
 (ix c.E i).bind λa=>
 cond (decide (a.F=0)) (
 (ix b a.J).bind λn=>
 (ix b a.J).bind λd=>
 (Ix N ([a.Av,a.Af.Ay,a.Af.Az]:List (List BS))).bind λg=>
 (ix b a.J).bind λo=>
 (ix b a.J).bind λp=>
 cond (decide (a.C≠(-1))) (
 (ix (upd b a.J (BD (d+g))) a.C).bind λq=>
 (ix (upd b a.J (BD (d+g))) a.C).bind λl=>
 (Fp N a.Ar a.Al).bind λm=>
 (ix (upd b a.J (BD (d+g))) a.C).bind λs=>
 (ix (upd b a.J (BD (d+g))) a.C).bind λt=>
 CL N i (BU N c j k) (upd (upd b a.J (BD (d+g))) a.C (BD (l+m)))) (
 CL N i (BU N c j k) (upd b a.J (BD (d+g))))) (
 cond (decide (a.F=1)) (
 Dc N b a (CL N i (BU N c j k)) (decide (a.F=1))) (
 cond (decide (a.F=5)) (
 Hf N (Dc N b a (CL N i (BU N c j k))) (decide (a.F=5))) (
 Hf N (Dc N b a (CL N i (BU N c j k))) (decide (a.F=3)))))) (
 j b)
def Da (N:Nat) (b:List Int) (c:Option Bool):Nat→Int→Option Bool
 |0,_=>none
 |i+1,a=>
 cond (decide (a<(↑b.length:Int))) (
 (ix b a).bind λg=>
 (ix b a).bind λd=>
 cond (decide (1099511627776<d)) (
 some false) (
 Da N b c i (BD (a+1)))) (
 c)
def FJ (N:Nat):Option Bool:=
 some true
def CZ (N:Nat) (a:List Int):Option Bool:=
 Da N a (FJ N) N 0
def Dd (N:Nat) (a:AF) (b:List Int):Option Bool:=
 BU N a (CZ N) N 0 b
def Db (N:Nat) (b:AF) (d:(List Int)→Option Bool):Nat→Int→(List Int)→Option Bool
 |0,_,_=>none
 |j+1,a,c=>
 cond (decide (a<(↑b.A.length:Int))) (
 (ix b.A a).bind λg=>
 (Fp N g.Y g.S).bind λi=>
 (ix c a).bind λk=>
 (ix c a).bind λl=>
 Db N b d j (BD (a+1)) (upd c a i)) (
 d c)
def HY (N:Nat) (a:AF):Option Bool:=
 chk (KH (↑a.A.length:Int) (↑a.A.length:Int) 8) <|
 Db N a (Dd N a) N 0 (List.replicate ((↑a.A.length:Int):Int).toNat (0:Int))
def Dq (N:Nat) (a:AF) (c:Option Bool):Nat→Int→Option Bool
 |0,_=>none
 |i+1,b=>
 cond (decide (b<(↑a.Ag.length:Int))) (
 (ix a.Ag b).bind λd=>
 (CV N d.Ak 0 1073741824).bind λg=>
 cond (!g) (
 some false) (
 Dq N a c i (BD (b+1)))) (
 c)
def Fg (N:Nat):Option Bool:=
 some true
def Dt (N:Nat) (a:AF):Option Bool:=
 Dq N a (Fg N) N 0
def Dr (N:Nat) (a:AF) (d:Option Bool):Nat→Int→Option Bool
 |0,_=>none
 |t+1,c=>
 cond (decide (c<(↑a.Ab.length:Int))) (
 (ix a.Ab c).bind λb=>
 (E8 N b.Ap (↑a.A.length:Int)).bind λg=>
 (cond (!g) (some true) ((CJ N b.Bo).bind λi=>
 some (!i))).bind λj=>
 (cond j (some true) ((CV N b.Bl 0 24).bind λk=>
 some (!k))).bind λl=>
 (cond l (some true) ((CV N b.Br 0 1073741824).bind λm=>
 some (!m))).bind λn=>
 (cond n (some true) ((CJ N b.Bp).bind λo=>
 some (!o))).bind λp=>
 (cond p (some true) ((CV N b.Bk 0 128).bind λq=>
 some (!q))).bind λs=>
 cond s (
 some false) (
 Dr N a d t (BD (c+1)))) (
 d)
def Hz (N:Nat) (a:AF):Option Bool:=
 Dr N a (Dt N a) N 0
def FK (N:Nat):Option Bool:=
 some true
def De (N:Nat) (a:AF) (d:Option Bool):Nat→Int→Option Bool
 |0,_=>none
 |o+1,c=>
 cond (decide (c<(↑a.Ad.length:Int))) (
 (ix a.Ad c).bind λb=>
 (CV N b.F 0 2).bind λg=>
 (cond (!g) (some true) ((CV N b.R 0 1099511627776).bind λi=>
 some (!i))).bind λj=>
 (cond j (some true) ((CV N b.Bq 0 1440).bind λk=>
 some (!k))).bind λl=>
 cond l (
 some false) (
 (ix ([(↑a.A.length:Int),a.O,(↑a.E.length:Int)]:List Int) b.F).bind λm=>
 (E8 N b.W m).bind λn=>
 cond (!n) (
 some false) (
 De N a d o (BD (c+1))))) (
 d)
def Ha (N:Nat) (a:AF):Option Bool:=
 De N a (FK N) N 0
def Fh (N:Nat):Option Bool:=
 some true
def Du (N:Nat) (a:AF) (d:Option Bool):Nat→Int→Option Bool
 |0,_=>none
 |u+1,c=>
 cond (decide (c<(↑a.Ae.length:Int))) (
 (ix a.Ae c).bind λb=>
 (E8 N b.J (↑a.Ab.length:Int)).bind λg=>
 (cond (!g) (some true) ((E8 N b.C (BD ((↑a.Ab.length:Int)+(↑a.Ag.length:Int)))).bind λi=>
 some (!i))).bind λj=>
 (cond (j||(decide (b.J=b.C))) (some true) ((CV N b.Bs 1 24).bind λk=>
 some (!k))).bind λl=>
 (cond l (some true) ((CV N b.Bt 0 1073741824).bind λm=>
 some (!m))).bind λn=>
 (cond n (some true) ((CJ N b.Bj).bind λo=>
 some (!o))).bind λp=>
 cond p (
 some false) (
 (cond ((decide (b.Bi=(-1)))&&(decide (b.Bj≠0))) (some true) ((cond (decide (b.Bi≠(-1))) ((E8 N b.Bi (↑a.A.length:Int)).bind λq=>
 some (!q)) (some false)).bind λs=>
 some s)).bind λt=>
 cond t (
 some false) (
 Du N a d u (BD (c+1))))) (
 d)
def H0 (N:Nat) (a:AF):Option Bool:=
 Du N a (Fh N) N 0
def Hn (N:Nat) (a:AF):Option Bool:=
 (IT N a).bind λv=>
 (cond v ((I8 N a).bind λb=>
 some b) (some false)).bind λc=>
 (cond c ((HZ N a).bind λd=>
 some d) (some false)).bind λg=>
 (cond g ((E2 N a).bind λi=>
 some i) (some false)).bind λj=>
 (cond j ((HK N a).bind λk=>
 some k) (some false)).bind λl=>
 (cond l ((HY N a).bind λm=>
 some m) (some false)).bind λn=>
 (cond n ((Hz N a).bind λo=>
 some o) (some false)).bind λp=>
 (cond p ((Ha N a).bind λq=>
 some q) (some false)).bind λs=>
 (cond s ((H0 N a).bind λt=>
 some t) (some false)).bind λu=>
 some u
def EG (N:Nat):Option Bool:=
 some true
def Cw (N:Nat) (a:(List Int)) (b:(List Int)) (c:Option Bool):Nat→Int→Option Bool
 |0,_=>none
 |j+1,d=>
 cond (decide (d<(↑a.length:Int))) (
 (ix a d).bind λg=>
 (ix b d).bind λi=>
 cond (decide (g≠i)) (
 some false) (
 Cw N a b c j (BD (d+1)))) (
 c)
def Cg (N:Nat) (a:(List Int)) (b:(List Int)):Option Bool:=
 cond (decide ((↑a.length:Int)≠(↑b.length:Int))) (
 some false) (
 Cw N a b (EG N) N 0)
def D5 (N:Nat):Option Bool:=
 some true
def Cq (N:Nat) (a:(List (List Int))) (b:(List (List Int))) (c:Option Bool):Nat→Int→Option Bool
 |0,_=>none
 |k+1,d=>
 cond (decide (d<(↑a.length:Int))) (
 (ix a d).bind λg=>
 (ix b d).bind λi=>
 (Cg N g i).bind λj=>
 cond (!j) (
 some false) (
 Cq N a b c k (BD (d+1)))) (
 c)
def GR (N:Nat) (a:(List (List Int))) (b:(List (List Int))):Option Bool:=
 cond (decide ((↑a.length:Int)≠(↑b.length:Int))) (
 some false) (
 Cq N a b (D5 N) N 0)
def D4 (N:Nat):Option Bool:=
 some true
def Cp (N:Nat) (a:(List AV)) (b:(List AV)) (d:Option Bool):Nat→Int→Option Bool
 |0,_=>none
 |q+1,c=>
 cond (decide (c<(↑a.length:Int))) (
 (ix a c).bind λg=>
 (ix b c).bind λi=>
 (cond (decide (g.Am≠i.Am)) (some true) ((ix a c).bind λj=>
 (ix b c).bind λk=>
 some (decide (j.C≠k.C)))).bind λl=>
 (cond l (some true) ((ix a c).bind λm=>
 (ix b c).bind λn=>
 (Cg N m.T n.T).bind λo=>
 some (!o))).bind λp=>
 cond p (
 some false) (
 Cp N a b d q (BD (c+1)))) (
 d)
def GQ (N:Nat) (a:(List AV)) (b:(List AV)):Option Bool:=
 cond (decide ((↑a.length:Int)≠(↑b.length:Int))) (
 some false) (
 Cp N a b (D4 N) N 0)
def D3 (N:Nat):Option Bool:=
 some true
def Co (N:Nat) (a:(List AT)) (b:(List AT)) (c:Option Bool):Nat→Int→Option Bool
 |0,_=>none
 |j+1,d=>
 cond (decide (d<(↑a.length:Int))) (
 (ix a d).bind λg=>
 (ix b d).bind λi=>
 cond (!(V2 g.v i.v)) (
 some false) (
 Co N a b c j (BD (d+1)))) (
 c)
def GP (N:Nat) (a:(List AT)) (b:(List AT)):Option Bool:=
 cond (decide ((↑a.length:Int)≠(↑b.length:Int))) (
 some false) (
 Co N a b (D3 N) N 0)
def EJ (N:Nat) (a:AE) (b:AE):Option Bool:=
 (GR N a.D b.D).bind λg=>
 (Cg N a.L b.L).bind λi=>
 (GQ N a.G b.G).bind λj=>
 (Cg N a.N b.N).bind λk=>
 (Cg N a.K b.K).bind λl=>
 (cond ((((((decide (a.B=b.B))&&g)&&i)&&j)&&k)&&l) ((GP N a.M b.M).bind λc=>
 some c) (some false)).bind λd=>
 some d
def J2 (N:Nat) (a:Int) (b:List (List Int)) (c:List Int) (d:List AV) (g:List AT) (i:List Int) (j:List Int):Option AE:=
 some (⟨a,b,c,d,g,i,j⟩:AE)
def Hh (N:Nat) (c:AF) (b:(List Ch)) (g:Int→(List (List Int))→(List Int)→(List AV)→(List AT)→(List Int)→(List Int)→Option AE):Nat→Int→Int→(List (List Int))→(List Int)→(List AV)→(List AT)→(List Int)→(List Int)→Option AE
 |0,_,_,_,_,_,_,_,_=>none
 |q+1,d,i,j,k,l,m,n,o=>
 cond (decide (d<(↑b.length:Int))) (
 (ix b d).bind λp=>
 (GF N c (⟨i,j,k,l,m,n,o⟩:AE) p).bind λa=>
 Hh N c b g q (BD (d+1)) a.1.B a.1.D a.1.L a.1.G a.1.M a.1.N a.1.K) (
 g i j k l m n o)
def JU (N:Nat) (c:AF) (a:AE) (b:(List Ch)):Option AE:=
 Hh N c b (J2 N) N 0 a.B a.D a.L a.G a.M a.N a.K
def LP (N:Nat):Option Bool:=
 some true
def J1 (N:Nat) (a:(List Int)) (c:Option Bool):Nat→Int→Option Bool
 |0,_=>none
 |g+1,b=>
 cond (decide (b<(↑a.length:Int))) (
 (ix a b).bind λd=>
 cond ((decide (d<0))||(decide (2305843009213693952<d))) (
 some false) (
 J1 N a c g (BD (b+1)))) (
 c)
def KK (N:Nat) (b:AF) (a:(List Int)):Option Bool:=
 cond (decide ((↑a.length:Int)≠(↑b.H.length:Int))) (
 some false) (
 J1 N a (LP N) N 0)
def Ht (N:Nat) (a:AF) (b:AE) (g:Option Bool):Nat→Int→Option Bool
 |0,_=>none
 |l+1,d=>
 cond (decide (d<(↑b.G.length:Int))) (
 (ix b.G d).bind λc=>
 (Ib N a c.C).bind λi=>
 (cond (!i) (some true) ((KK N a c.T).bind λj=>
 some (!j))).bind λk=>
 cond k (
 some false) (
 Ht N a b g l (BD (d+1)))) (
 g)
def I5 (N:Nat):Option Bool:=
 some true
def I6 (N:Nat) (a:AF) (b:AE):Option Bool:=
 Ht N a b (I5 N) N 0
def Hu (N:Nat) (b:AF) (a:AE) (d:Option Bool):Nat→Int→Option Bool
 |0,_=>none
 |j+1,c=>
 cond (decide (c<(↑a.D.length:Int))) (
 (ix a.D c).bind λg=>
 (KK N b g).bind λi=>
 cond (!i) (
 some false) (
 Hu N b a d j (BD (c+1)))) (
 d)
def KA (N:Nat) (a:AF) (b:AE):Option Bool:=
 (cond (decide ((↑b.D.length:Int)≠(↑a.A.length:Int))) (some true) ((KK N a b.N).bind λc=>
 some (!c))).bind λd=>
 (cond d (some true) ((KK N a b.K).bind λg=>
 some (!g))).bind λi=>
 cond i (
 some false) (
 Hu N a b (I6 N a b) N 0)
def MR (N:Nat) (b:AF) (a:AK):Option Bool:=
 (KK N b a.T).bind λc=>
 (cond c ((cond (decide (a.J=(-1))) (some true) ((Ib N b a.J).bind λd=>
 some d)).bind λg=>
 some g) (some false)).bind λi=>
 (cond i ((cond (decide (a.C=(-1))) (some true) ((Ib N b a.C).bind λj=>
 some j)).bind λk=>
 some k) (some false)).bind λl=>
 some l
def MQ (N:Nat) (p0_w:AI) (a:Int):Option AI:=
 (some (BD (p0_w.hi+(BD ((K1 p0_w.lo (IntKind.wrap .u64 a) 0).2))))).bind λb=>
 some (⟨b,((K1 p0_w.lo (IntKind.wrap .u64 a) 0).1)⟩:AI)
def Gu (N:Nat) (b:Int) (a:Int) (c:(List Int)):Nat→Int→((List (AC×AI)))→Option (List (AC×AI))
 |0,_,_=>none
 |l+1,d,g=>
 cond (decide (d<(↑c.length:Int))) (
 (ix c d).bind λi=>
 (MQ N (⟨(BD (((NC (λk:AC=>Value.agg (AC.v k).toArray) g (⟨b,a,d⟩:AC)).getD (⟨0,0⟩:AI)).hi)),(IntKind.wrap .u64 (((NC (λk:AC=>Value.agg (AC.v k).toArray) g (⟨b,a,d⟩:AC)).getD (⟨0,0⟩:AI)).lo))⟩:AI) i).bind λj=>
 Gu N b a c l (BD (d+1)) (Qg (λk:AC=>Value.agg (AC.v k).toArray) g (⟨b,a,d⟩:AC) j)) (
 some g)
def F7 (N:Nat) (d:(List (AC×AI))) (b:Int) (a:Int) (c:(List Int)):Option (List (AC×AI)):=
 Gu N b a c N 0 d
def EU (N:Nat) (a:AE) (c:((List (AC×AI)))→Option (List (AC×AI))):Nat→Int→((List (AC×AI)))→Option (List (AC×AI))
 |0,_,_=>none
 |j+1,b,d=>
 cond (decide (b<(↑a.G.length:Int))) (
 (ix a.G b).bind λg=>
 (F7 N d 0 g.C g.T).bind λi=>
 EU N a c j (BD (b+1)) i) (
 c d)
def Fu (N:Nat) (a:AE) (c:(List (AC×AI))):Option (List (AC×AI)):=
 (F7 N c 1 (-1) a.N).bind λd=>
 (F7 N d 2 (-1) a.K).bind λb=>
 some b
def Fv (N:Nat) (a:AE) (b:(List (AC×AI))):Option (List (AC×AI)):=
 EU N a (Fu N a) N 0 b
def EV (N:Nat) (a:AE) (c:((List (AC×AI)))→Option (List (AC×AI))):Nat→Int→((List (AC×AI)))→Option (List (AC×AI))
 |0,_,_=>none
 |j+1,b,d=>
 cond (decide (b<(↑a.D.length:Int))) (
 (ix a.D b).bind λg=>
 (F7 N d 0 b g).bind λi=>
 EV N a c j (BD (b+1)) i) (
 c d)
def IB (N:Nat) (b:(List (AC×AI))) (a:AE):Option (List (AC×AI)):=
 EV N a (Fv N a) N 0 b
def MN (N:Nat) (p0_w:AI) (a:Int):Option AI:=
 (some (BD (p0_w.hi-(BD ((K0 p0_w.lo (IntKind.wrap .u64 a) 0).2))))).bind λb=>
 some (⟨b,((K0 p0_w.lo (IntKind.wrap .u64 a) 0).1)⟩:AI)
def Gv (N:Nat) (b:Int) (a:Int) (c:(List Int)):Nat→Int→((List (AC×AI)))→Option (List (AC×AI))
 |0,_,_=>none
 |l+1,d,g=>
 cond (decide (d<(↑c.length:Int))) (
 (ix c d).bind λi=>
 (MN N (⟨(BD (((NC (λk:AC=>Value.agg (AC.v k).toArray) g (⟨b,a,d⟩:AC)).getD (⟨0,0⟩:AI)).hi)),(IntKind.wrap .u64 (((NC (λk:AC=>Value.agg (AC.v k).toArray) g (⟨b,a,d⟩:AC)).getD (⟨0,0⟩:AI)).lo))⟩:AI) i).bind λj=>
 Gv N b a c l (BD (d+1)) (Qg (λk:AC=>Value.agg (AC.v k).toArray) g (⟨b,a,d⟩:AC) j)) (
 some g)
def EI (N:Nat) (d:(List (AC×AI))) (b:Int) (a:Int) (c:(List Int)):Option (List (AC×AI)):=
 Gv N b a c N 0 d
def ES (N:Nat) (a:AE) (c:((List (AC×AI)))→Option (List (AC×AI))):Nat→Int→((List (AC×AI)))→Option (List (AC×AI))
 |0,_,_=>none
 |j+1,b,d=>
 cond (decide (b<(↑a.G.length:Int))) (
 (ix a.G b).bind λg=>
 (EI N d 0 g.C g.T).bind λi=>
 ES N a c j (BD (b+1)) i) (
 c d)
def Fs (N:Nat) (a:AE) (c:(List (AC×AI))):Option (List (AC×AI)):=
 (EI N c 1 (-1) a.N).bind λd=>
 (EI N d 2 (-1) a.K).bind λb=>
 some b
def Ft (N:Nat) (a:AE) (b:(List (AC×AI))):Option (List (AC×AI)):=
 ES N a (Fs N a) N 0 b
def ET (N:Nat) (a:AE) (c:((List (AC×AI)))→Option (List (AC×AI))):Nat→Int→((List (AC×AI)))→Option (List (AC×AI))
 |0,_,_=>none
 |j+1,b,d=>
 cond (decide (b<(↑a.D.length:Int))) (
 (ix a.D b).bind λg=>
 (EI N d 0 b g).bind λi=>
 ET N a c j (BD (b+1)) i) (
 c d)
def IA (N:Nat) (b:(List (AC×AI))) (a:AE):Option (List (AC×AI)):=
 ET N a (Ft N a) N 0 b
def H2 (N:Nat) (a:AK) (b:(List (AC×AI))):Option (List (AC×AI)):=
 cond (decide (a.J=(-1))) (
 (EI N b 1 (-1) a.T).bind λc=>
 some c) (
 (F7 N b 0 a.J a.T).bind λd=>
 some d)
def KL (N:Nat) (b:(List (AC×AI))) (a:AK):Option (List (AC×AI)):=
 cond (decide (a.C=(-1))) (
 (EI N b 2 (-1) a.T).bind λc=>
 H2 N a c) (
 (EI N b 0 a.C a.T).bind λd=>
 H2 N a d)
def Ir (N:Nat) (a:(List AK)) (d:((List (AC×AI)))→Option Bool):Nat→Int→((List (AC×AI)))→Option Bool
 |0,_,_=>none
 |j+1,b,c=>
 cond (decide (b<(↑a.length:Int))) (
 (ix a b).bind λg=>
 (KL N c g).bind λi=>
 Ir N a d j (BD (b+1)) i) (
 d c)
def Jg (N:Nat) (a:AC×AI):Option Bool:=
 cond (!(V2 (⟨(BD a.2.hi),(IntKind.wrap .u64 a.2.lo)⟩:AI).v (⟨0,0⟩:AI).v)) (
 some false) (
 none)
def Jh (N:Nat):Option Bool:=
 some true
def Ji (N:Nat) (a:(List (AC×AI))):Option Bool:=
 cond (List.all a (λe=>(Jg N e).isNone)) (Jh N) (some false)
def Jj (N:Nat) (b:AE) (c:AE) (a:(List AK)):Option Bool:=
 (IB N ([]:(List (AC×AI))) c).bind λd=>
 (IA N d b).bind λg=>
 Ir N a (Ji N) N 0 g
def Is (N:Nat) (b:AF) (a:(List AK)) (d:Option Bool):Nat→Int→Option Bool
 |0,_=>none
 |j+1,c=>
 cond (decide (c<(↑a.length:Int))) (
 (ix a c).bind λg=>
 (MR N b g).bind λi=>
 cond (!i) (
 some false) (
 Is N b a d j (BD (c+1)))) (
 d)
def LR (N:Nat) (b:AF) (c:AE) (d:AE) (a:(List AK)):Option Bool:=
 (KA N b c).bind λg=>
 (cond (!g) (some true) ((KA N b d).bind λi=>
 some (!i))).bind λj=>
 cond j (
 some false) (
 Is N b a (Jj N c d a) N 0)
def Ee (N:Nat):Option Bool:=
 (Jr N).bind λd=>
 (Nc N d 5).bind λc=>
 (IQ N d c Qi).bind λa=>
 (Pc N Qh 0 2 6).bind λb=>
 (Nd N d ByteArray.empty).bind λj=>
 (Mr N c).bind λk=>
 (Nd N d k).bind λg=>
 (Nf N d a.2.1 1).bind λi=>
 (Hn N d).bind λl=>
 cond (((((((!l)||(decide ((↑a.1.length:Int)≠1)))||(decide ((↑a.2.2.length:Int)≠1)))||(decide ((↑a.2.1.length:Int)≠3)))||j.2)||(!g.2))||(decide ((↑b.length:Int)≠4))) (
 some false) (
 (ix a.1 0).bind λab=>
 (ix a.1 0).bind λm=>
 (cond (decide ((↑m.D.length:Int)≠3)) (some true) ((ix a.1 0).bind λac=>
 (ix a.1 0).bind λn=>
 (ix n.D 0).bind λo=>
 some (decide ((↑o.length:Int)≠1)))).bind λp=>
 (cond p (some true) ((ix a.1 0).bind λad=>
 (ix a.1 0).bind λq=>
 some (decide ((↑q.K.length:Int)≠1)))).bind λs=>
 cond s (
 some false) (
 (EJ N g.1 c).bind λt=>
 (cond t ((JU N d c []).bind λu=>
 (EJ N u c).bind λv=>
 some v) (some false)).bind λw=>
 (cond w ((ix a.1 0).bind λx=>
 (LR N d c x a.2.1).bind λy=>
 some y) (some false)).bind λz=>
 (cond z ((ix a.1 0).bind λA=>
 (rI a.2.1 1).bind λB=>
 (LR N d c A B).bind λC=>
 some (!C)) (some false)).bind λF=>
 (cond F ((ix a.1 0).bind λG=>
 (ix G.D 0).bind λH=>
 (ix H 0).bind λI=>
 some (decide (I=63))) (some false)).bind λJ=>
 (cond J ((ix a.1 0).bind λM=>
 (ix M.K 0).bind λQ=>
 some (decide (Q=15))) (some false)).bind λU=>
 (cond U ((ix b 1).bind λae=>
 (ix b 1).bind λV=>
 some (decide (V=15))) (some false)).bind λW=>
 (cond W ((ix b 3).bind λaf=>
 (ix b 3).bind λX=>
 some (decide (X=7))) (some false)).bind λY=>
 (cond Y (some (decide (i.1=7))) (some false)).bind λZ=>
 (cond Z (some (decide (i.2=0))) (some false)).bind λaa=>
 some aa))
def Ff (N:Nat):Option Bool:=
 some true
def Dp (N:Nat) (a:(List Int)) (b:(List Int)) (c:Option Bool):Nat→Int→Option Bool
 |0,_=>none
 |j+1,d=>
 cond (decide (d<(↑a.length:Int))) (
 (ix a d).bind λg=>
 (ix b d).bind λi=>
 cond (decide (g≠i)) (
 some false) (
 Dp N a b c j (BD (d+1)))) (
 c)
def Hy (N:Nat) (a:(List Int)) (b:(List Int)):Option Bool:=
 cond (decide ((↑a.length:Int)≠(↑b.length:Int))) (
 some false) (
 Dp N a b (Ff N) N 0)
def C0 (N:Nat) (a:AF) (b:AE):Option Bool:=
 (Hn N a).bind λc=>
 (cond c ((Hc N a b).bind λd=>
 some d) (some false)).bind λg=>
 some g
def Cz (N:Nat) (a:(List Ch)) (d:Option Bool):Nat→Int→Option Bool
 |0,_=>none
 |g+1,c=>
 cond (decide (c<(↑a.length:Int))) (
 (ix a c).bind λb=>
 cond (((((decide (20<(↑b.Z.length:Int)))||(decide (20<(↑b.Ah.length:Int))))||(decide (20<(↑b.Aj.length:Int))))||(decide (20<(↑b.Aa.length:Int))))||(decide (20<(↑b.Aq.length:Int)))) (
 some false) (
 Cz N a d g (BD (c+1)))) (
 d)
def HX (N:Nat) (b:AF) (c:AE) (a:(List Ch)):Option Bool:=
 cond (((((decide (6<(↑b.A.length:Int)))||(decide (6<(↑b.E.length:Int))))||(decide (20<(↑c.G.length:Int))))||(decide (12<(↑a.length:Int))))||(decide (16777196<c.B))) (
 some false) (
 Cz N a (C0 N b c) N 0)
def D2 (N:Nat):Option Bool:=
 some true
def Cn (N:Nat) (a:(List AK)) (b:(List AK)) (d:Option Bool):Nat→Int→Option Bool
 |0,_=>none
 |x+1,c=>
 cond (decide (c<(↑a.length:Int))) (
 (ix a c).bind λg=>
 (ix b c).bind λi=>
 (Cg N g.T i.T).bind λj=>
 (cond (!j) (some true) ((ix a c).bind λk=>
 (ix b c).bind λl=>
 some (decide (k.B≠l.B)))).bind λm=>
 (cond m (some true) ((ix a c).bind λn=>
 (ix b c).bind λo=>
 some (decide (n.J≠o.J)))).bind λp=>
 (cond p (some true) ((ix a c).bind λq=>
 (ix b c).bind λs=>
 some (decide (q.C≠s.C)))).bind λt=>
 (cond t (some true) ((ix a c).bind λu=>
 (ix b c).bind λv=>
 some (decide (u.Ba≠v.Ba)))).bind λw=>
 cond w (
 some false) (
 Cn N a b d x (BD (c+1)))) (
 d)
def GO (N:Nat) (a:(List AK)) (b:(List AK)):Option Bool:=
 cond (decide ((↑a.length:Int)≠(↑b.length:Int))) (
 some false) (
 Cn N a b (D2 N) N 0)
def Cr (N:Nat) (b:AF) (d:AE) (a:(List Ch)) (g:Int) (s:Bool) (i:(List AE)×(List AK)×(List (List Int))) (t:AE):Option Bool:=
 (iF a g).bind λj=>
 (JU N b t j).bind λc=>
 (cond s ((JU N b d a).bind λk=>
 (EJ N c k).bind λl=>
 some l) (some false)).bind λm=>
 (cond m ((cond (decide ((↑a.length:Int)=0)) (some true) ((ix i.1 (BD ((↑a.length:Int)-1))).bind λu=>
 (ix i.1 (BD ((↑a.length:Int)-1))).bind λn=>
 (EJ N c n).bind λo=>
 some o)).bind λp=>
 some p) (some false)).bind λq=>
 some q
def CY (N:Nat) (i:AF) (j:AE) (g:(List Ch)) (b:(List AE)×(List AK)×(List (List Int))) (c:(List AE)×(List AK)×(List (List Int))) (d:(List AE)×(List AK)×(List (List Int))) (k:Option Bool):Nat→Int→Option Bool
 |0,_=>none
 |G+1,a=>
 cond (decide (a<(↑g.length:Int))) (
 (ix b.1 a).bind λy=>
 (ix b.1 a).bind λl=>
 (ix ((([]:List AE)++c.1)++d.1) a).bind λz=>
 (ix ((([]:List AE)++c.1)++d.1) a).bind λm=>
 (EJ N l m).bind λn=>
 (cond (!n) (some true) ((ix b.2.2 a).bind λA=>
 (ix b.2.2 a).bind λo=>
 (ix ((([]:List (List Int))++c.2.2)++d.2.2) a).bind λC=>
 (ix ((([]:List (List Int))++c.2.2)++d.2.2) a).bind λp=>
 (Hy N o p).bind λq=>
 some (!q))).bind λs=>
 (cond s (some true) ((ix b.1 a).bind λD=>
 (ix b.1 a).bind λt=>
 some (decide (t.B≠(BD ((BD (j.B+a))+1)))))).bind λu=>
 (cond u (some true) ((ix b.1 a).bind λF=>
 (ix b.1 a).bind λv=>
 (Hc N i v).bind λw=>
 some (!w))).bind λx=>
 cond x (
 some false) (
 CY N i j g b c d k G (BD (a+1)))) (
 k)
def GS (N:Nat) (c:AF) (g:AE) (a:(List Ch)) (i:Int):Option Bool:=
 (Ee N).bind λk=>
 (HX N c g a).bind λq=>
 cond (((!q)||(decide (i<0)))||(decide ((↑a.length:Int)<i))) (
 some k) (
 (IQ N c g a).bind λj=>
 (iE a i).bind λs=>
 (JU N c g s).bind λl=>
 (iE a i).bind λm=>
 (IQ N c g m).bind λb=>
 (iF a i).bind λn=>
 (IQ N c l n).bind λd=>
 chk (IX (([]:List AE).length+b.1.length) 152) <|
 chk (IX ((([]:List AE)++b.1).length+d.1.length) 152) <|
 chk (IX (([]:List AK).length+b.2.1.length) 56) <|
 chk (IX ((([]:List AK)++b.2.1).length+d.2.1.length) 56) <|
 chk (IX (([]:List (List Int)).length+b.2.2.length) 24) <|
 chk (IX ((([]:List (List Int))++b.2.2).length+d.2.2.length) 24) <|
 (cond ((((decide ((↑j.1.length:Int)≠(↑a.length:Int)))||(decide ((↑((([]:List AE)++b.1)++d.1).length:Int)≠(↑a.length:Int))))||(decide ((↑j.2.2.length:Int)≠(↑a.length:Int))))||(decide ((↑((([]:List (List Int))++b.2.2)++d.2.2).length:Int)≠(↑a.length:Int)))) (some true) ((GO N j.2.1 ((([]:List AK)++b.2.1)++d.2.1)).bind λo=>
 some (!o))).bind λp=>
 cond p (
 some false) (
 CY N c g a j b d (Cr N c g a i k j l) N 0))
end Go.Proofs.YtedgiljmffngoaaGreat
