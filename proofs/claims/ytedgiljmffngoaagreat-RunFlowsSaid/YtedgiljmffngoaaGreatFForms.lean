import Derived.Test.YtedgiljmffngoaaGreatFReps
import Derived.Test.YtedgiljmffngoaaGreatFSortD
namespace Go.Proofs.YtedgiljmffngoaaGreat
set_option linter.all false
open Go.RowKit
def Xp (N:Nat) (s:ByteArray):Option AV:=some ⟨s,false⟩
def I1 (N:Nat):Option AO:=
 some (⟨(ByteArray.mk #[120]),Nv,0,Nu,[],[],[],[],[],([1000,1000,1000]:List Int),0⟩:AO)
def CX (N:Nat) (a:(List Int)):Option (List Int):=
 chk (Hn (([]:List Int).length+a.length) 8) <|
 some (([]:List Int)++a)
def JM (N:Nat) (a:AO) (b:Int) (c:List (List Int)):Option AJ:=
 some (⟨b,c,(List.replicate ((↑a.E.length:Int):Int).toNat (0:Int)),[],(List.replicate ((↑a.J.length:Int):Int).toNat ((⟨0,0,false,false⟩:BE):BE)),(List.replicate ((↑a.I.length:Int):Int).toNat (0:Int)),(List.replicate ((↑a.I.length:Int):Int).toNat (0:Int))⟩:AJ)
def Hw (N:Nat) (c:AO) (d:(List (List Int))→Option AJ):Nat→Int→(List (List Int))→Option AJ
 |0,_,_=>none
 |l+1,a,b=>
 cond (decide (a<(↑c.E.length:Int))) (
 (ix c.E a).bind λg=>
 (CX N g.Bf).bind λi=>
 (ix b a).bind λj=>
 (ix b a).bind λk=>
 Hw N c d l (BG (a+1)) (upd b a i)) (
 d b)
def Me (N:Nat) (a:AO) (b:Int):Option AJ:=
 chk (KM (↑a.E.length:Int) (↑a.E.length:Int) 24) <|
 chk (KM (↑a.E.length:Int) (↑a.E.length:Int) 8) <|
 chk (KM (↑a.J.length:Int) (↑a.J.length:Int) 24) <|
 chk (KM (↑a.I.length:Int) (↑a.I.length:Int) 8) <|
 chk (KM (↑a.I.length:Int) (↑a.I.length:Int) 8) <|
 Hw N a (JM N a b) N 0 (List.replicate ((↑a.E.length:Int):Int).toNat ([]:(List Int)))
def Cq (N:Nat) (a:(List BE)):Option (List BE):=
 chk (Hn (([]:List BE).length+a.length) 24) <|
 some (([]:List BE)++a)
def Ij (N:Nat) (a:AJ) (d:List (List Int)):Option AJ:=
 (CX N a.K).bind λg=>
 (Cq N a.Q).bind λi=>
 (CX N a.O).bind λb=>
 (CX N a.N).bind λc=>
 some (⟨a.A,d,g,a.P,i,b,c⟩:AJ)
def HO (N:Nat) (b:AJ) (d:(List (List Int))→Option AJ):Nat→Int→(List (List Int))→Option AJ
 |0,_,_=>none
 |j+1,a,c=>
 cond (decide (a<(↑b.F.length:Int))) (
 (ix b.F a).bind λg=>
 (CX N g).bind λi=>
 (ix c a).bind λk=>
 (ix c a).bind λl=>
 HO N b d j (BG (a+1)) (upd c a i)) (
 d c)
def Ly (N:Nat) (a:AJ):Option AJ:=
 chk (KM (↑a.F.length:Int) (↑a.F.length:Int) 24) <|
 HO N a (Ij N a) N 0 (List.replicate ((↑a.F.length:Int):Int).toNat ([]:(List Int)))
def E9 (N:Nat) (b:Int) (a:Int):Option Bool:=
 some ((decide (0≤b))&&(decide (b<a)))
def Fk (N:Nat) (a:BE) (b:Bool) (c:Bool):Option BE:=
 some (⟨a.Ah,a.V,b,c⟩:BE)
def JT (N:Nat) (d:BY) (a:BE) (b:Int) (c:Bool→Bool→Option BE) (g:Bool):Option BE:=
 cond g (
 cond (decide (d.L=5)) (
 c a.An (decide (b=2))) (
 c a.An a.Ae)) (
 c a.An a.Ae)
def Mm (N:Nat) (c:BY) (b:BE) (a:Int):Option BE:=
 cond (decide (a=0)) (
 Fk N b true b.Ae) (
 cond (decide (a=1)) (
 Fk N b false b.Ae) (
 cond (decide (a=2)) (
 JT N c b a (Fk N b) (decide (a=2))) (
 JT N c b a (Fk N b) (decide (a=3)))))
def H6 (N:Nat) (c:Int) (b:Int) (a:Int):Option Int:=
 cond (decide (c<b)) (
 some b) (
 cond (decide (a<c)) (
 some a) (
 some c))
def Kh (N:Nat) (a:BE) (b:Int):Option BE:=
 some ({ a with V:=b}:BE)
def OY (N:Nat) (c:BY) (b:BE) (a:Int):Option BE:=
 cond (decide (c.Ad≠0)) (
 (H6 N a 0 c.Ad).bind λd=>
 Kh N b d) (
 Kh N b b.V)
def F9 (N:Nat) (b:Int) (a:Int):Option Int:=
 cond ((decide (a<0))&&(decide ((BG (9223372036854775807+a))<b))) (
 some 9223372036854775807) (
 cond ((decide (0<a))&&(decide (b<(BG ((-9223372036854775808)+a))))) (
 some (-9223372036854775808)) (
 some (BG (b-a))))
def Ej (N:Nat) (b:Int) (a:Int):Option Int:=
 cond ((decide (0<a))&&(decide ((BG (9223372036854775807-a))<b))) (
 some 9223372036854775807) (
 cond ((decide (a<0))&&(decide (b<(BG ((-9223372036854775808)-a))))) (
 some (-9223372036854775808)) (
 some (BG (b+a))))
def NV (N:Nat) (b:BY) (a:BE):Option BE:=
 cond a.An (
 some a) (
 (F9 N a.V a.Ah).bind λc=>
 (F9 N 0 b.Ar).bind λd=>
 (H6 N c d b.Ar).bind λg=>
 (Ej N a.Ah g).bind λi=>
 some ({ a with Ah:=i}:BE))
def Gp (N:Nat) (a:Int) (b:Int→(List BE)→Option (List BE)) (c:List BE):Option (List BE):=
 b (BG (a+1)) c
def DQ (N:Nat) (p0_w:A5) (g:(List BE)→Option (List BE)):Nat→Int→(List BE)→Option (List BE)
 |0,_,_=>none
 |m+1,d,c=>
 cond (decide (d<(↑p0_w.in_.Aj.length:Int))) (
 (ix p0_w.in_.Aj d).bind λa=>
 (E9 N a.Af (↑p0_w.b.J.length:Int)).bind λi=>
 cond i (
 (ix p0_w.b.J a.Af).bind λj=>
 (ix c a.Af).bind λn=>
 (ix c a.Af).bind λk=>
 (OY N j k a.V).bind λl=>
 (ix c a.Af).bind λo=>
 (ix c a.Af).bind λp=>
 Gp N d (DQ N p0_w g m) (upd c a.Af l)) (
 Gp N d (DQ N p0_w g m) c)) (
 g c)
def FL (N:Nat) (p0_w:A5):Nat→Int→(List BE)→Option (List BE)
 |0,_,_=>none
 |m+1,a,c=>
 cond (decide (a<(↑p0_w.b.J.length:Int))) (
 (ix p0_w.b.J a).bind λd=>
 (ix c a).bind λj=>
 (ix c a).bind λg=>
 (NV N d g).bind λi=>
 (ix c a).bind λk=>
 (ix c a).bind λl=>
 FL N p0_w m (BG (a+1)) (upd c a i)) (
 some c)
def FM (N:Nat) (p0_w:A5) (a:List BE):Option (List BE):=
 FL N p0_w N 0 a
def FO (N:Nat) (p0_w:A5) (a:List BE):Option (List BE):=
 DQ N p0_w (FM N p0_w) N 0 a
def Gq (N:Nat) (c:Int) (a:Int→(List BE)→Option (List BE)) (b:List BE):Option (List BE):=
 a (BG (c+1)) b
def DT (N:Nat) (p0_w:A5) (c:(List BE)→Option (List BE)):Nat→Int→(List BE)→Option (List BE)
 |0,_,_=>none
 |m+1,g,d=>
 cond (decide (g<(↑p0_w.in_.Ai.length:Int))) (
 (ix p0_w.in_.Ai g).bind λa=>
 (E9 N a.Af (↑p0_w.b.J.length:Int)).bind λi=>
 cond i (
 (ix p0_w.b.J a.Af).bind λj=>
 (ix d a.Af).bind λn=>
 (ix d a.Af).bind λk=>
 (Mm N j k a.L).bind λl=>
 (ix d a.Af).bind λo=>
 (ix d a.Af).bind λp=>
 Gq N g (DT N p0_w c m) (upd d a.Af l)) (
 Gq N g (DT N p0_w c m) d)) (
 c d)
def Jx (N:Nat) (p0_w:A5):Option (List BE):=
 DT N p0_w (FO N p0_w) N 0 p0_w.s.Q
def Ml (N:Nat) (b:(List Int)) (a:Int):Option Int:=
 (cond ((decide (a<0))||(decide ((↑b.length:Int)≤a))) (some true) ((ix b a).bind λd=>
 some (decide (d<0)))).bind λg=>
 cond g (
 some 0) (
 (ix b a).bind λc=>
 some c)
def KA (N:Nat) (a:List Int):Option (List Int):=
 some a
def NR (N:Nat) (a:(List Int)) (b:Int) (c:Int) (d:Int):Option (List Int):=
 chk (KM (↑a.length:Int) (↑a.length:Int) 8) <|
 (Ml N a b).bind λg=>
 cond ((((decide (0<(min d g)))&&(decide (0≤c)))&&(decide (c<(↑a.length:Int))))&&(decide (b≠c))) (
 (ix (PT (List.replicate ((↑a.length:Int):Int).toNat (0:Int)) a) b).bind λl=>
 (ix (PT (List.replicate ((↑a.length:Int):Int).toNat (0:Int)) a) b).bind λi=>
 (ix (PT (List.replicate ((↑a.length:Int):Int).toNat (0:Int)) a) b).bind λm=>
 (ix (PT (List.replicate ((↑a.length:Int):Int).toNat (0:Int)) a) b).bind λn=>
 (ix (upd (PT (List.replicate ((↑a.length:Int):Int).toNat (0:Int)) a) b (BG (i-(min d g)))) c).bind λo=>
 (ix (upd (PT (List.replicate ((↑a.length:Int):Int).toNat (0:Int)) a) b (BG (i-(min d g)))) c).bind λj=>
 (Ej N j (min d g)).bind λk=>
 (ix (upd (PT (List.replicate ((↑a.length:Int):Int).toNat (0:Int)) a) b (BG (i-(min d g)))) c).bind λp=>
 (ix (upd (PT (List.replicate ((↑a.length:Int):Int).toNat (0:Int)) a) b (BG (i-(min d g)))) c).bind λq=>
 KA N (upd (upd (PT (List.replicate ((↑a.length:Int):Int).toNat (0:Int)) a) b (BG (i-(min d g)))) c k)) (
 KA N (PT (List.replicate ((↑a.length:Int):Int).toNat (0:Int)) a))
def Gn (N:Nat) (c:Int) (a:Int→(List (List Int))→Option (List (List Int))) (b:List (List Int)):Option (List (List Int)):=
 a (BG (c+1)) b
def DP (N:Nat) (p0_w:A5):Nat→Int→(List (List Int))→Option (List (List Int))
 |0,_,_=>none
 |o+1,d,c=>
 cond (decide (d<(↑p0_w.in_.Ag.length:Int))) (
 (ix p0_w.in_.Ag d).bind λa=>
 (E9 N a.Ab (↑p0_w.b.E.length:Int)).bind λg=>
 (cond g ((E9 N a.D (↑p0_w.b.I.length:Int)).bind λi=>
 some i) (some false)).bind λj=>
 (cond j ((E9 N a.B (↑p0_w.b.I.length:Int)).bind λk=>
 some k) (some false)).bind λl=>
 cond l (
 (ix c a.Ab).bind λq=>
 (ix c a.Ab).bind λm=>
 (NR N m a.D a.B a.Bc).bind λn=>
 (ix c a.Ab).bind λs=>
 (ix c a.Ab).bind λp=>
 Gn N d (DP N p0_w o) (upd c a.Ab n)) (
 Gn N d (DP N p0_w o) c)) (
 some c)
def Jw (N:Nat) (p0_w:A5):Option (List (List Int)):=
 DP N p0_w N 0 p0_w.s.F
def Ei (N:Nat) (a:Int):Option Int:=
 some a
def Dz (N:Nat) (a:(List Int)) (c:Int→Option Int):Nat→Int→Int→Option Int
 |0,_,_=>none
 |j+1,i,b=>
 cond (decide (b<(↑a.length:Int))) (
 (ix a b).bind λd=>
 (Ej N i d).bind λg=>
 Dz N a c j g (BG (b+1))) (
 c i)
def Cc (N:Nat) (a:(List Int)):Option Int:=
 Dz N a (Ei N) N 0 0
def Fq (N:Nat) (p0_w:A5) (b:Int→Option ((List (List Int))×(List Int)×(List AX))):Nat→Int→Int→Option ((List (List Int))×(List Int)×(List AX))
 |0,_,_=>none
 |i+1,c,a=>
 cond (decide (a<(↑p0_w.s.P.length:Int))) (
 (ix p0_w.s.P a).bind λd=>
 (Cc N d.R).bind λg=>
 Fq N p0_w b i (BG (c+g)) (BG (a+1))) (
 b c)
def HC (N:Nat) (p0_w:A5) (k:Int) (l:Int) (d:Int) (i:List AX) (g:List (List Int)) (c:List Int) (m:Int→Int→(List AX)→(List (List Int))→(List Int)→Option ((List (List Int))×(List Int)×(List AX))) (a:Int):Option ((List (List Int))×(List Int)×(List AX)):=
 cond (decide (a≤0)) (
 m k l i g c) (
 (ix g d).bind λp=>
 (ix g d).bind λj=>
 (ix j 0).bind λn=>
 (ix j 0).bind λq=>
 (ix c 0).bind λt=>
 (ix c 0).bind λo=>
 (ix c 0).bind λu=>
 (ix c 0).bind λv=>
 chk (KM (↑p0_w.b.I.length:Int) (↑p0_w.b.I.length:Int) 8) <|
 (ix (List.replicate ((↑p0_w.b.I.length:Int):Int).toNat (0:Int)) 0).bind λw=>
 (ix (List.replicate ((↑p0_w.b.I.length:Int):Int).toNat (0:Int)) 0).bind λx=>
 chk (Hn (i.length+([(⟨p0_w.s.A,(-1),d,(-4),(upd (List.replicate ((↑p0_w.b.I.length:Int):Int).toNat (0:Int)) 0 a)⟩:AX)]:List AX).length) 56) <|
 m (BG (k+a)) (BG (l+a)) (i++([(⟨p0_w.s.A,(-1),d,(-4),(upd (List.replicate ((↑p0_w.b.I.length:Int):Int).toNat (0:Int)) 0 a)⟩:AX)]:List AX)) (upd g d (upd j 0 (BG (n+a)))) (upd c 0 (BG (o+a))))
def Ft (N:Nat) (a:Int) (j:Int→Int→Int→(List AX)→(List (List Int))→(List Int)→Option ((List (List Int))×(List Int)×(List AX))) (b:Int) (c:Int) (d:List AX) (g:List (List Int)) (i:List Int):Option ((List (List Int))×(List Int)×(List AX)):=
 j b c (BG (a+1)) d g i
def DF (N:Nat) (p0_w:A5):Nat→Int→Int→Int→(List AX)→(List (List Int))→(List Int)→Option ((List (List Int))×(List Int)×(List AX))
 |0,_,_,_,_,_,_=>none
 |l+1,c,d,a,g,i,j=>
 cond (decide (a<(↑p0_w.b.E.length:Int))) (
 cond (decide (a<(↑p0_w.in_.Aa.length:Int))) (
 (ix p0_w.in_.Aa a).bind λk=>
 HC N p0_w c d a g i j (Ft N a (DF N p0_w l)) (min (min k (BG (1125899906842624-c))) (BG (1152921504606846976-d)))) (
 HC N p0_w c d a g i j (Ft N a (DF N p0_w l)) 0)) (
 some (i,j,g))
def HD (N:Nat) (p0_w:A5) (a:Int):Option ((List (List Int))×(List Int)×(List AX)):=
 (Cc N p0_w.s.O).bind λb=>
 DF N p0_w N a b 0 p0_w.moves p0_w.s.F p0_w.s.O
def HE (N:Nat) (p0_w:A5) (a:Int):Option ((List (List Int))×(List Int)×(List AX)):=
 Fq N p0_w (HD N p0_w) N a 0
def Fs (N:Nat) (p0_w:A5) (b:Int→Option ((List (List Int))×(List Int)×(List AX))):Nat→Int→Int→Option ((List (List Int))×(List Int)×(List AX))
 |0,_,_=>none
 |i+1,g,a=>
 cond (decide (a<(↑p0_w.s.F.length:Int))) (
 (ix p0_w.s.F a).bind λj=>
 (ix p0_w.s.F a).bind λc=>
 (Cc N c).bind λd=>
 Fs N p0_w b i (BG (g+d)) (BG (a+1))) (
 b g)
def KU (N:Nat) (p0_w:A5):Option ((List (List Int))×(List Int)×(List AX)):=
 Fs N p0_w (HE N p0_w) N 0 0
def Kg (N:Nat) (a:List Int):Option (List Int):=
 some a
def JG (N:Nat) (c:(List Int)) (d:(List Int)→Option (List Int)):Nat→Int→(List Int)→Option (List Int)
 |0,_,_=>none
 |k+1,a,b=>
 cond (decide (a<(↑c.length:Int))) (
 (ix c a).bind λg=>
 (ix b a).bind λl=>
 (ix b a).bind λi=>
 (Ej N i g).bind λj=>
 (ix b a).bind λm=>
 (ix b a).bind λn=>
 JG N c d k (BG (a+1)) (upd b a j)) (
 d b)
def LS (N:Nat) (a:(List Int)) (b:(List Int)):Option (List Int):=
 chk (KM (max (↑a.length:Int) (↑b.length:Int)) (max (↑a.length:Int) (↑b.length:Int)) 8) <|
 JG N b (Kg N) N 0 (PT (List.replicate ((max (↑a.length:Int) (↑b.length:Int)):Int).toNat (0:Int)) a)
def J6 (N:Nat) (a:Int) (b:(List BM)→Int→(List (List Int))→Option ((List (List Int))×(List BM))) (c:List BM) (d:List (List Int)):Option ((List (List Int))×(List BM)):=
 b c (BG (a+1)) d
def GL (N:Nat) (d:(List BM)) (b:Int) (n:Int) (k:(List BM)→(List (List Int))→Option ((List (List Int))×(List BM))):Nat→(List BM)→Int→(List (List Int))→Option ((List (List Int))×(List BM))
 |0,_,_,_=>none
 |o+1,g,i,c=>
 cond (decide (i<(↑d.length:Int))) (
 (ix d i).bind λa=>
 cond (((decide (a.Aq≤b))&&(decide (0≤a.B)))&&(decide (a.B<n))) (
 (ix c a.B).bind λp=>
 (ix c a.B).bind λl=>
 (LS N l a.R).bind λm=>
 (ix c a.B).bind λq=>
 (ix c a.B).bind λs=>
 J6 N i (GL N d b n k o) g (upd c a.B m)) (
 (CX N a.R).bind λj=>
 chk (Hn (g.length+([({ a with R:=j}:BM)]:List BM).length) 40) <|
 J6 N i (GL N d b n k o) (g++([({ a with R:=j}:BM)]:List BM)) c)) (
 k g c)
def IX (N:Nat) (a:List BM) (b:List (List Int)):Option ((List (List Int))×(List BM)):=
 some (b,a)
def J7 (N:Nat) (b:(List BM)) (a:Int) (d:Int) (c:List (List Int)):Option ((List (List Int))×(List BM)):=
 GL N b a d (IX N) N ([]:List BM) 0 c
def IW (N:Nat) (g:Int) (d:Int) (c:(List (List Int))→Option ((List (List Int))×(List BM))):Nat→Int→(List (List Int))→Option ((List (List Int))×(List BM))
 |0,_,_=>none
 |i+1,a,b=>
 cond (decide (a<(↑(List.replicate (g:Int).toNat ([]:(List Int))).length:Int))) (
 chk (KM d d 8) <|
 (ix b a).bind λj=>
 (ix b a).bind λk=>
 IW N g d c i (BG (a+1)) (upd b a (List.replicate (d:Int).toNat (0:Int)))) (
 c b)
def NP (N:Nat) (d:(List BM)) (c:Int) (a:Int) (b:Int):Option ((List (List Int))×(List BM)):=
 (H6 N a 0 64).bind λg=>
 (H6 N b 0 16).bind λi=>
 chk (KM g g 24) <|
 IW N g i (J7 N d c g) N 0 (List.replicate (g:Int).toNat ([]:(List Int)))
def HQ (N:Nat) (a:BE) (b:Bool):Option BE:=
 some ({ a with Ae:=b}:BE)
def L0 (N:Nat) (b:BY) (a:BE) (c:Int):Option BE:=
 cond (decide (b.L≠3)) (
 some a) (
 cond (decide (b.As≤c)) (
 HQ N a true) (
 cond (decide (c≤b.At)) (
 HQ N a false) (
 HQ N a a.Ae)))
def Fb (N:Nat) (a:Int) (c:Int→(List BE)→Option ((List (List Int))×(List BM)×(List BE)×(List Int))) (b:List BE):Option ((List (List Int))×(List BM)×(List BE)×(List Int)):=
 c (BG (a+1)) b
def Cs (N:Nat) (p0_w:A5) (j:(List (List Int))×(List BM)) (i:List (List Int)) (d:List Int):Nat→Int→(List BE)→Option ((List (List Int))×(List BM)×(List BE)×(List Int))
 |0,_,_=>none
 |n+1,a,c=>
 cond (decide (a<(↑p0_w.b.J.length:Int))) (
 (ix p0_w.b.J a).bind λg=>
 cond (decide (g.L=3)) (
 (ix c a).bind λo=>
 (ix c a).bind λk=>
 (ix d g.D).bind λp=>
 (ix d g.D).bind λl=>
 (L0 N g k l).bind λm=>
 (ix c a).bind λq=>
 (ix c a).bind λs=>
 Fb N a (Cs N p0_w j i d n) (upd c a m)) (
 Fb N a (Cs N p0_w j i d n) c)) (
 some (i,j.2,c,d))
def Fd (N:Nat) (p0_w:A5) (c:(List (List Int))×(List BM)) (a:List (List Int)) (b:List Int):Option ((List (List Int))×(List BM)×(List BE)×(List Int)):=
 Cs N p0_w c a b N 0 p0_w.s.Q
def D7 (N:Nat) (p0_w:A5) (i:(List (List Int))×(List BM)) (j:(List (List Int))→(List Int)→Option ((List (List Int))×(List BM)×(List BE)×(List Int))):Nat→Int→(List (List Int))→(List Int)→Option ((List (List Int))×(List BM)×(List BE)×(List Int))
 |0,_,_,_=>none
 |w+1,a,c,d=>
 cond (decide (a<(↑p0_w.b.E.length:Int))) (
 (ix c a).bind λo=>
 (ix c a).bind λk=>
 (ix i.1 a).bind λp=>
 (ix i.1 a).bind λl=>
 (LS N k l).bind λg=>
 (ix c a).bind λq=>
 (ix c a).bind λs=>
 (ix (upd c a g) a).bind λt=>
 (ix (upd c a g) a).bind λm=>
 (Cc N m).bind λn=>
 (ix d a).bind λu=>
 (ix d a).bind λv=>
 D7 N p0_w i j w (BG (a+1)) (upd c a g) (upd d a n)) (
 j c d)
def IR (N:Nat) (p0_w:A5):Option ((List (List Int))×(List BM)×(List BE)×(List Int)):=
 (NP N p0_w.s.P p0_w.s.A (↑p0_w.b.E.length:Int) (↑p0_w.b.I.length:Int)).bind λa=>
 D7 N p0_w a (Fd N p0_w a) N 0 p0_w.s.F p0_w.peaks
def IE (N:Nat) (a:List Int):Option (List Int):=
 some a
def Gu (N:Nat) (a:(List Int)) (d:(List Int)→Option (List Int)):Nat→Int→(List Int)→Option (List Int)
 |0,_,_=>none
 |j+1,b,c=>
 cond (decide (b<(↑a.length:Int))) (
 (ix a b).bind λg=>
 (ix c b).bind λk=>
 (ix c b).bind λi=>
 (ix c b).bind λl=>
 (ix c b).bind λm=>
 Gu N a d j (BG (b+1)) (upd c b (BG (i-g)))) (
 d c)
def J8 (N:Nat) (a:(List Int)) (b:(List Int)):Option (List Int):=
 chk (KM (↑a.length:Int) (↑a.length:Int) 8) <|
 Gu N b (IE N) N 0 (PT (List.replicate ((↑a.length:Int):Int).toNat (0:Int)) a)
def KB (N:Nat) (a:(List Int)) (b:List Int):Option ((List Int)×(List Int)):=
 (J8 N a b).bind λc=>
 some (b,c)
def NS (N:Nat) (b:(List Int)) (a:Int) (c:Int):Option ((List Int)×(List Int)):=
 chk (KM (↑b.length:Int) (↑b.length:Int) 8) <|
 (Ml N b a).bind λd=>
 cond (decide (0<(min c d))) (
 (ix (List.replicate ((↑b.length:Int):Int).toNat (0:Int)) a).bind λg=>
 (ix (List.replicate ((↑b.length:Int):Int).toNat (0:Int)) a).bind λi=>
 KB N b (upd (List.replicate ((↑b.length:Int):Int).toNat (0:Int)) a (min c d))) (
 KB N b (List.replicate ((↑b.length:Int):Int).toNat (0:Int)))
def Ee (N:Nat) (b:I0) (a:(List Int)):Option ((List Int)×(List Int)):=
 (NS N a b.Bj b.Bc).bind λc=>
 some (c.1,c.2)
def FK (N:Nat) (a:List AE):Option (List AE):=
 some a
def FJ (N:Nat) (a:Int) (b:(List AE)→Int→Option (List AE)) (c:List AE):Option (List AE):=
 b c (BG (a+1))
def Cy (N:Nat) (p0_w:A5) (a:Int) (g:(List AE)→Option (List AE)):Nat→(List AE)→Int→Option (List AE)
 |0,_,_=>none
 |j+1,i,d=>
 cond (decide (d<(↑p0_w.in_.Ak.length:Int))) (
 (ix p0_w.in_.Ak d).bind λc=>
 (cond (decide (c.Ab≠a)) (some true) ((E9 N c.Bj (↑p0_w.b.I.length:Int)).bind λk=>
 some (!k))).bind λl=>
 cond (l||(decide (c.Bc≤0))) (
 FJ N d (Cy N p0_w a g j) i) (
 (cond (decide (c.B≠(-1))) ((E9 N c.B (↑p0_w.b.E.length:Int)).bind λm=>
 (cond (!m) (some true) ((ix p0_w.b.E c.B).bind λn=>
 (ix p0_w.b.E a).bind λo=>
 some (decide (n.Al≠o.Al)))).bind λp=>
 some p) (some false)).bind λq=>
 cond q (
 FJ N d (Cy N p0_w a g j) i) (
 chk (Hn (i.length+1) 32) <|
 FJ N d (Cy N p0_w a g j) (i++([(⟨c.B,0,(-3),(λx=>Ee N c x)⟩:AE)]:List AE))))) (
 g i)
def Jv (N:Nat) (p0_w:A5) (a:Int):Option (List AE):=
 Cy N p0_w a (FK N) N ([]:List AE) 0
def IF (N:Nat) (a:Int) (b:Int):Option (Int×Int):=
 some ((IntKind.wrap .u64 ((IntKind.wrap .u64 ((IntKind.wrap .u64 ((Dn .u64 a 32)*(Dn .u64 b 32)))+(Dn .u64 (IntKind.wrap .u64 ((IntKind.wrap .u64 ((Dn .u64 a 32)*(EH .and .u64 b 4294967295)))+(Dn .u64 (IntKind.wrap .u64 ((EH .and .u64 a 4294967295)*(EH .and .u64 b 4294967295))) 32))) 32)))+(Dn .u64 (IntKind.wrap .u64 ((EH .and .u64 (IntKind.wrap .u64 ((IntKind.wrap .u64 ((Dn .u64 a 32)*(EH .and .u64 b 4294967295)))+(Dn .u64 (IntKind.wrap .u64 ((EH .and .u64 a 4294967295)*(EH .and .u64 b 4294967295))) 32))) 4294967295)+(IntKind.wrap .u64 ((EH .and .u64 a 4294967295)*(Dn .u64 b 32))))) 32))),(IntKind.wrap .u64 (a*b)))
def Gv (N:Nat) (a:Int) (b:Int):Option Int:=
 (UG Q1 (IntKind.wrap .u8 a)).bind λc=>
 some (BG (b+(BG c)))
def Gw (N:Nat) (a:Int) (b:Int):Option Int:=
 cond (decide (256≤a)) (
 Gv N (Dn .u64 a 8) (BG (b+8))) (
 Gv N a b)
def Gx (N:Nat) (a:Int) (b:Int):Option Int:=
 cond (decide (65536≤a)) (
 Gw N (Dn .u64 a 16) (BG (b+16))) (
 Gw N a b)
def KC (N:Nat) (a:Int):Option Int:=
 cond (decide (4294967296≤a)) (
 Gx N (Dn .u64 a 32) 32) (
 Gx N a 0)
def GM (N:Nat) (a:Int):Option Int:=
 (KC N a).bind λb=>
 some (BG (64-b))
def FU (N:Nat) (b:Int) (a:Int) (d:Nat) (j:Nat) (g:Int→Option (Int×Int)):Nat→Int→Int→Option (Int×Int)
 |0,_,_=>none
 |k+1,i,c=>
 cond ((decide (4294967296≤c))||(decide ((IntKind.wrap .u64 ((IntKind.wrap .u64 (4294967296*i))+(EH .and .u64 (ED .u64 b j) 4294967295)))<(IntKind.wrap .u64 (c*(EH .and .u64 (ED .u64 a d) 4294967295)))))) (
 cond (decide (4294967296≤(IntKind.wrap .u64 (i+(Dn .u64 (ED .u64 a d) 32))))) (
 g (IntKind.wrap .u64 (c-1))) (
 FU N b a d j g k (IntKind.wrap .u64 (i+(Dn .u64 (ED .u64 a d) 32))) (IntKind.wrap .u64 (c-1)))) (
 g c)
def Gy (N:Nat) (c:Int) (a:Int) (b:Int) (n:Int) (d:Nat) (k:Nat) (l:Nat) (g:Nat) (i:Int) (j:Int):Option (Int×Int):=
 (R4 (IntKind.wrap .u64 n)).bind λm=>
 some ((IntKind.wrap .u64 ((IntKind.wrap .u64 (i*4294967296))+j)),(Dn .u64 (IntKind.wrap .u64 ((IntKind.wrap .u64 ((IntKind.wrap .u64 ((IntKind.wrap .u64 ((IntKind.wrap .u64 ((IntKind.wrap .u64 ((EH .or .u64 (ED .u64 c k) (Dn .u64 a l))*4294967296))+(Dn .u64 (ED .u64 a g) 32)))-(IntKind.wrap .u64 (i*(ED .u64 b d)))))*4294967296))+(EH .and .u64 (ED .u64 a g) 4294967295)))-(IntKind.wrap .u64 (j*(ED .u64 b d))))) m))
def Gz (N:Nat) (c:Int) (a:Int) (b:Int) (m:Int) (d:Nat) (i:Nat) (j:Nat) (g:Nat) (k:Int):Option (Int×Int):=
 (TX .u64 (IntKind.wrap .u64 ((IntKind.wrap .u64 ((IntKind.wrap .u64 ((EH .or .u64 (ED .u64 c i) (Dn .u64 a j))*4294967296))+(Dn .u64 (ED .u64 a g) 32)))-(IntKind.wrap .u64 (k*(ED .u64 b d))))) (Dn .u64 (ED .u64 b d) 32)).bind λl=>
 FU N a b d g (Gy N c a b m d i j g k) N (IntKind.wrap .u64 ((IntKind.wrap .u64 ((IntKind.wrap .u64 ((IntKind.wrap .u64 ((EH .or .u64 (ED .u64 c i) (Dn .u64 a j))*4294967296))+(Dn .u64 (ED .u64 a g) 32)))-(IntKind.wrap .u64 (k*(ED .u64 b d)))))-(IntKind.wrap .u64 (l*(Dn .u64 (ED .u64 b d) 32))))) l
def FV (N:Nat) (b:Int) (a:Int) (d:Nat) (j:Nat) (g:Int→Option (Int×Int)):Nat→Int→Int→Option (Int×Int)
 |0,_,_=>none
 |k+1,c,i=>
 cond ((decide (4294967296≤c))||(decide ((IntKind.wrap .u64 ((IntKind.wrap .u64 (4294967296*i))+(Dn .u64 (ED .u64 b j) 32)))<(IntKind.wrap .u64 (c*(EH .and .u64 (ED .u64 a d) 4294967295)))))) (
 cond (decide (4294967296≤(IntKind.wrap .u64 (i+(Dn .u64 (ED .u64 a d) 32))))) (
 g (IntKind.wrap .u64 (c-1))) (
 FV N b a d j g k (IntKind.wrap .u64 (c-1)) (IntKind.wrap .u64 (i+(Dn .u64 (ED .u64 a d) 32))))) (
 g c)
def IG (N:Nat) (c:Int) (b:Int) (a:Int):Option (Int×Int):=
 cond (decide (a=0)) (
 none) (
 cond (decide (a≤c)) (
 none) (
 cond (decide (c=0)) (
 (TX .u64 b a).bind λm=>
 (VY b a).bind λn=>
 some (m,n)) (
 (GM N a).bind λj=>
 (R4 (IntKind.wrap .u64 j)).bind λd=>
 (R4 (IntKind.wrap .u64 j)).bind λg=>
 (R4 (IntKind.wrap .u64 (64-(IntKind.wrap .u64 j)))).bind λi=>
 (R4 (IntKind.wrap .u64 j)).bind λk=>
 (TX .u64 (EH .or .u64 (ED .u64 c g) (Dn .u64 b i)) (Dn .u64 (ED .u64 a d) 32)).bind λl=>
 FV N b a d k (Gz N c b a j d g i k) N l (IntKind.wrap .u64 ((EH .or .u64 (ED .u64 c g) (Dn .u64 b i))-(IntKind.wrap .u64 (l*(Dn .u64 (ED .u64 a d) 32))))))))
def HA (N:Nat) (c:Int) (b:Int) (a:Int):Option (Int×Int×Bool):=
 cond ((((((decide (c<0))||(decide (1125899906842624<c)))||(decide (b<0)))||(decide (1125899906842624<b)))||(decide (a<1)))||(decide (1125899906842624<a))) (
 some (0,0,false)) (
 (IF N (IntKind.wrap .u64 c) (IntKind.wrap .u64 b)).bind λg=>
 cond (decide ((IntKind.wrap .u64 a)≤g.1)) (
 some (0,0,false)) (
 (IG N g.1 g.2 (IntKind.wrap .u64 a)).bind λd=>
 cond (decide (1125899906842624<d.1)) (
 some (0,0,false)) (
 some ((BG d.1),(BG d.2),true))))
def IY (N:Nat) (c:Int) (a:Int) (b:Int):Option Int:=
 (HA N c a b).bind λd=>
 cond (!d.2.2) (
 some 0) (
 some d.1)
def NT (N:Nat) (b:BY) (a:Int) (c:Int):Option Int:=
 cond (decide (b.B=(-1))) (
 some a) (
 (IY N c b.Ap b.Am).bind λd=>
 (F9 N a d).bind λg=>
 some (max 0 g))
def Iv (N:Nat):Option Bool:=
 some true
def Ha (N:Nat) (a:(List CP)) (d:Option Bool):Nat→Int→Option Bool
 |0,_=>none
 |l+1,c=>
 cond (decide (c<(↑a.length:Int))) (
 (ix a c).bind λb=>
 cond ((((decide (b.Ax<0))||(decide (1125899906842624<b.Ax)))||(decide (b.Ay<0)))||(decide (1125899906842624<b.Ay))) (
 some false) (
 (cond (decide (0<c)) ((ix a (BG (c-1))).bind λg=>
 (cond (decide (b.Ax≤g.Ax)) (some true) ((ix a (BG (c-1))).bind λi=>
 some (decide (b.Ay<i.Ay)))).bind λj=>
 some j) (some false)).bind λk=>
 cond k (
 some false) (
 Ha N a d l (BG (c+1))))) (
 d)
def FA (N:Nat) (a:(List CP)):Option Bool:=
 cond ((decide ((↑a.length:Int)<1))||(decide (32<(↑a.length:Int)))) (
 some false) (
 Ha N a (Iv N) N 0)
def Ik (N:Nat) (a:Int):Option Int:=
 some a
def GF (N:Nat) (b:(Int→Option Bool)) (d:Int→Option Int):Nat→Int→Int→Option Int
 |0,_,_=>none
 |i+1,a,c=>
 cond (decide (a<c)) (
 (b (BG (Dn .u64 (IntKind.wrap .u64 (BG (a+c))) 1))).bind λg=>
 cond (!g) (
 GF N b d i (BG ((BG (Dn .u64 (IntKind.wrap .u64 (BG (a+c))) 1))+1)) c) (
 GF N b d i a (BG (Dn .u64 (IntKind.wrap .u64 (BG (a+c))) 1)))) (
 d a)
def Lz (N:Nat) (a:Int) (b:(Int→Option Bool)):Option Int:=
 GF N b (Ik N) N 0 a
def JU (N:Nat) (b:(List CP)) (c2_:Int) (a:Int):Option Bool:=
 (ix b a).bind λc=>
 some (decide (c2_<c.Ax))
def JH (N:Nat) (a:(List CP)) (d:Int):Option (Int×Bool):=
 (Lz N (↑a.length:Int) (λx=>JU N a d x)).bind λb=>
 cond (decide (b=0)) (
 (ix a 0).bind λi=>
 some (i.Ay,false)) (
 (ix a (BG (b-1))).bind λc=>
 cond (decide (b=(↑a.length:Int))) (
 some (c.Ay,false)) (
 (ix a b).bind λj=>
 (ix a b).bind λk=>
 (HA N (BG (d-c.Ax)) (BG (j.Ay-c.Ay)) (BG (k.Ax-c.Ax))).bind λg=>
 some ((BG (c.Ay+g.1)),(decide (0<g.2.1)))))
def OZ (N:Nat) (a:(List CP)) (b:Int):Option Int:=
 (FA N a).bind λc=>
 cond (!c) (
 some 0) (
 (JH N a b).bind λd=>
 some d.1)
def Ia (N:Nat):Option Int:=
 some 0
def IZ (N:Nat) (a:BY) (b:Int):Option Int:=
 (F9 N b a.Av).bind λd=>
 (IY N (max 0 d) a.T a.S).bind λc=>
 some c
def LW (N:Nat) (a:Bool) (b:Option Int):Option Int:=
 cond (!a) (
 some 0) (
 b)
def LV (N:Nat) (c:BY) (a:Bool) (b:Int) (d:Option Int):Option Int:=
 cond a (
 (IY N b c.T c.S).bind λg=>
 some g) (
 d)
def LU (N:Nat) (b:BY) (a:Int):Option Int:=
 (IY N b.T a b.Ad).bind λc=>
 some c
def LT (N:Nat) (a:BY) (c:Int) (g:(List CP)) (b:Int) (d:Int):Option Int:=
 (NT N a b d).bind λi=>
 (OZ N g i).bind λj=>
 (IY N j c a.Ad).bind λk=>
 (Ej N k a.Au).bind λl=>
 some l
def NU (N:Nat) (a:BY) (d:Int) (c:Bool) (i:(List CP)) (b:Int) (g:Int):Option Int:=
 cond (decide (a.L=0)) (
 LT N a d i b g) (
 cond (decide (a.L=2)) (
 LU N a d) (
 cond (decide (a.L=3)) (
 LV N a c b (Ia N)) (
 cond (decide (a.L=5)) (
 LW N c (IZ N a b)) (
 cond (decide (a.L=1)) (
 IZ N a b) (
 Ia N)))))
def OX (N:Nat) (b:BY) (c:BE) (a:Int) (d:Int):Option Int:=
 (NU N b c.Ah c.Ae b.Bd a d).bind λg=>
 some g
def Ho (N:Nat) (a:Int):Option Int:=
 some a
def JS (N:Nat):Option Bool:=
 some true
def H0 (N:Nat) (a:(List Int)) (c:Option Bool):Nat→Int→Int→Option Bool
 |0,_,_=>none
 |i+1,g,d=>
 cond (decide (d<(↑a.length:Int))) (
 (ix a d).bind λb=>
 cond ((decide (b<0))||(decide ((BG (1125899906842624-g))<b))) (
 some false) (
 H0 N a c i (BG (g+b)) (BG (d+1)))) (
 c)
def K7 (N:Nat) (a:(List Int)):Option Bool:=
 H0 N a (JS N) N 0 0
def HW (N:Nat) (c:Int) (a:(List Int)) (n:Int) (k:Int→(List Int)→(List Int)→(List Int)→Option ((List Int)×Bool)):Nat→Int→Int→(List Int)→(List Int)→(List Int)→Option ((List Int)×Bool)
 |0,_,_,_,_,_=>none
 |v+1,l,b,g,i,j=>
 cond (decide (b<(↑a.length:Int))) (
 (ix a b).bind λm=>
 (HA N c m n).bind λd=>
 (ix j b).bind λo=>
 (ix j b).bind λp=>
 (ix i b).bind λq=>
 (ix i b).bind λs=>
 (ix g b).bind λt=>
 (ix g b).bind λu=>
 HW N c a n k v (BG (l-d.1)) (BG (b+1)) (upd g b b) (upd i b d.2.1) (upd j b d.1)) (
 k l g i j)
def HV (N:Nat) (c:List Int) (g:(List Int)→Option ((List Int)×Bool)):Nat→Int→(List Int)→Option ((List Int)×Bool)
 |0,_,_=>none
 |m+1,d,a=>
 cond (decide (d<(↑c.length:Int))) (
 (ix c d).bind λb=>
 (ix a b).bind λj=>
 (ix a b).bind λi=>
 (ix a b).bind λk=>
 (ix a b).bind λl=>
 HV N c g m (BG (d+1)) (upd a b (BG (i+1)))) (
 g a)
def Iq (N:Nat) (a:List Int):Option ((List Int)×Bool):=
 some (a,true)
def Ir (N:Nat) (c:Int) (d:List Int) (g:List Int) (i:List Int):Option ((List Int)×Bool):=
 (TS d g).bind λa=>
 (eP a c).bind λb=>
 HV N b (Iq N) N 0 i
def Is (N:Nat) (b:Int) (a:(List Int)) (c:Int):Option ((List Int)×Bool):=
 cond ((decide (b<0))||(decide (c<b))) (
 some (([]:List Int),false)) (
 chk (KM (↑a.length:Int) (↑a.length:Int) 8) <|
 cond (decide (c=0)) (
 some ((List.replicate ((↑a.length:Int):Int).toNat (0:Int)),true)) (
 chk (KM (↑a.length:Int) (↑a.length:Int) 8) <|
 chk (KM (↑a.length:Int) (↑a.length:Int) 8) <|
 HW N b a c (Ir N) N b 0 (List.replicate ((↑a.length:Int):Int).toNat (0:Int)) (List.replicate ((↑a.length:Int):Int).toNat (0:Int)) (List.replicate ((↑a.length:Int):Int).toNat (0:Int))))
def HX (N:Nat) (a:(List Int)) (g:Int→Option ((List Int)×Bool)):Nat→Int→Int→Option ((List Int)×Bool)
 |0,_,_=>none
 |i+1,b,c=>
 cond (decide (c<(↑a.length:Int))) (
 (ix a c).bind λd=>
 cond ((decide (d<0))||(decide ((BG (1125899906842624-b))<d))) (
 some (([]:List Int),false)) (
 HX N a g i (BG (b+d)) (BG (c+1)))) (
 g b)
def L4 (N:Nat) (b:Int) (a:(List Int)):Option ((List Int)×Bool):=
 cond (decide (64<(↑a.length:Int))) (
 some (([]:List Int),false)) (
 HX N a (Is N b a) N 0 0)
def HU (N:Nat) (a:(List Int)) (b:List Int):Option ((List Int)×(List Int)):=
 (J8 N a b).bind λc=>
 some (b,c)
def J9 (N:Nat) (a:(List Int)→Option ((List Int)×(List Int))) (b:List Int):Option ((List Int)×(List Int)):=
 a b
def NQ (N:Nat) (a:(List Int)) (b:Int):Option ((List Int)×(List Int)):=
 chk (KM (↑a.length:Int) (↑a.length:Int) 8) <|
 (cond ((decide (0<b))&&(decide ((↑a.length:Int)≤64))) ((K7 N a).bind λd=>
 some d) (some false)).bind λg=>
 cond g (
 (Cc N a).bind λi=>
 (L4 N (min b i) a).bind λc=>
 cond c.2 (
 J9 N (HU N a) (PT (List.replicate ((↑a.length:Int):Int).toNat (0:Int)) c.1)) (
 J9 N (HU N a) (List.replicate ((↑a.length:Int):Int).toNat (0:Int)))) (
 HU N a (List.replicate ((↑a.length:Int):Int).toNat (0:Int)))
def AN (N:Nat) (b:Int) (a:(List Int)):Option ((List Int)×(List Int)):=
 (NQ N a b).bind λc=>
 some (c.1,c.2)
def Lp (N:Nat) (c:Int) (a:Int) (b:Int):Option Int:=
 (HA N c a b).bind λd=>
 cond (!d.2.2) (
 some 0) (
 some d.1)
def Mg (N:Nat) (a:BY) (b:Int) (c:Int):Option Int:=
 cond (decide (a.L≠4)) (
 some 0) (
 (Lp N b a.T a.S).bind λd=>
 (Lp N c a.Ap a.Am).bind λg=>
 some (BG (d-g)))
def D6 (N:Nat) (a:List AE):Option (List AE):=
 some a
def Gt (N:Nat) (p0_w:A5) (c:Int) (m:List AE) (b:Int) (a:BY) (g:(List AE)→Option (List AE)) (i:Int):Option (List AE):=
 (ix p0_w.s.Q b).bind λn=>
 (ix p0_w.s.Q b).bind λj=>
 (ix p0_w.peaks c).bind λo=>
 (ix p0_w.peaks c).bind λk=>
 (OX N a j k i).bind λl=>
 (Ho N l).bind λd=>
 chk (Hn (m.length+([(⟨a.B,a.M,b,(λx=>AN N d x)⟩:AE)]:List AE).length) 32) <|
 g (m++([(⟨a.B,a.M,b,(λx=>AN N d x)⟩:AE)]:List AE))
def Cz (N:Nat) (a:Int) (b:(List AE)→Int→Option (List AE)) (c:List AE):Option (List AE):=
 b c (BG (a+1))
def CU (N:Nat) (p0_w:A5) (c:Int) (g:(List AE)→Option (List AE)):Nat→(List AE)→Int→Option (List AE)
 |0,_,_=>none
 |l+1,i,d=>
 cond (decide (d<(↑p0_w.b.J.length:Int))) (
 (ix p0_w.b.J d).bind λa=>
 cond ((decide (a.D=c))&&(decide (a.L≠4))) (
 cond (decide (a.B≠(-1))) (
 (ix p0_w.peaks a.B).bind λA=>
 (ix p0_w.peaks a.B).bind λu=>
 Gt N p0_w c i d a (Cz N d (CU N p0_w c g l)) u) (
 Gt N p0_w c i d a (Cz N d (CU N p0_w c g l)) 0)) (
 cond (decide (a.D=c)) (
 (ix p0_w.peaks c).bind λv=>
 (ix p0_w.peaks c).bind λm=>
 (ix p0_w.peaks a.B).bind λw=>
 (ix p0_w.peaks a.B).bind λn=>
 (Mg N a m n).bind λo=>
 (Ho N o).bind λj=>
 chk (Hn (i.length+([(⟨a.B,a.M,d,(λx=>AN N j x)⟩:AE)]:List AE).length) 32) <|
 Cz N d (CU N p0_w c g l) (i++([(⟨a.B,a.M,d,(λx=>AN N j x)⟩:AE)]:List AE))) (
 cond ((decide (a.B=c))&&(decide (a.L=4))) (
 (ix p0_w.peaks a.D).bind λy=>
 (ix p0_w.peaks a.D).bind λp=>
 (ix p0_w.peaks c).bind λz=>
 (ix p0_w.peaks c).bind λq=>
 (Mg N a p q).bind λs=>
 (F9 N 0 s).bind λt=>
 (Ho N t).bind λk=>
 chk (Hn (i.length+([(⟨a.D,a.M,d,(λx=>AN N k x)⟩:AE)]:List AE).length) 32) <|
 Cz N d (CU N p0_w c g l) (i++([(⟨a.D,a.M,d,(λx=>AN N k x)⟩:AE)]:List AE))) (
 Cz N d (CU N p0_w c g l) i)))) (
 g i)
def Jz (N:Nat) (p0_w:A5) (a:Int):Option (List AE):=
 CU N p0_w a (D6 N) N ([]:List AE) 0
def CN (N:Nat) (a:List AE):Option (List AE):=
 some a
def Cj (N:Nat) (a:Int):Option (List AE):=
 cond (decide (a<0)) (
 none) (
 cond (decide (0<(BG (a-(BG (0-0)))))) (
 chk (decide (0<(BG (a-(BG (0-0)))))) <|
 chk (Hn ((BG (a-(BG (0-0)))):Int).toNat 32) <|
 CN N ([]:List AE)) (
 CN N ([]:List AE)))
def B1 (N:Nat) (a:(List (List AE))) (d:(List AE)→Option (List AE)):Nat→(List AE)→Int→Option (List AE)
 |0,_,_=>none
 |i+1,b,c=>
 cond (decide (c<(↑a.length:Int))) (
 (ix a c).bind λg=>
 chk (Hn (b.length+g.length) 32) <|
 B1 N a d i (b++g) (BG (c+1))) (
 d b)
def CI (N:Nat) (a:List AE):Option (List AE):=
 some a
def CJ (N:Nat) (a:(List (List AE))) (c:Int):Option (List AE):=
 (Cj N c).bind λb=>
 B1 N a (CI N) N b 0
def B2 (N:Nat) (a:(List (List AE))) (c:Int→Option (List AE)):Nat→Int→Int→Option (List AE)
 |0,_,_=>none
 |i+1,g,b=>
 cond (decide (b<(↑a.length:Int))) (
 (ix a b).bind λd=>
 cond (decide ((BG (g+(↑d.length:Int)))<0)) (
 none) (
 B2 N a c i (BG (g+(↑d.length:Int))) (BG (b+1)))) (
 c g)
def Ce (N:Nat) (a:(List (List AE))):Option (List AE):=
 B2 N a (CJ N a) N 0 0
def Dk (N:Nat):Option Int:=
 some (-1)
def C1 (N:Nat) (a:(List Int)) (b:(Int→Option Bool)) (c:Option Int):Nat→Int→Option Int
 |0,_=>none
 |j+1,d=>
 cond (decide (d<(↑a.length:Int))) (
 (ix a d).bind λg=>
 (b g).bind λi=>
 cond i (
 some d) (
 C1 N a b c j (BG (d+1)))) (
 c)
def GI (N:Nat) (a:(List Int)) (b:(Int→Option Bool)):Option Int:=
 C1 N a b (Dk N) N 0
def FQ (N:Nat) (a:(List Int)) (b:(Int→Option Bool)):Option Bool:=
 (GI N a b).bind λc=>
 some (decide (0≤c))
def J5 (N:Nat) (a:Int):Option Bool:=
 some (decide (0<a))
def Mk (N:Nat) (c:Int) (b:Int) (a:(List Int)):Option (List BM):=
 (cond (decide (b<0)) (some true) ((FQ N a (λx=>J5 N x)).bind λg=>
 some (!g))).bind λi=>
 cond i (
 some ([]:List BM)) (
 (CX N a).bind λd=>
 chk (Hn (([]:List BM).length+1) 40) <|
 some (([]:List BM)++([(⟨c,b,d⟩:BM)]:List BM)))
def HN (N:Nat) (p0_w:A5) (a:Int) (b:AE):Option ((List (List Int))×(List Int)×(List AX)×(List BM)):=
 (ix p0_w.s.F a).bind λm=>
 (ix p0_w.s.F a).bind λj=>
 (b.take j).bind λc=>
 (ix p0_w.s.F a).bind λk=>
 (ix p0_w.s.F a).bind λl=>
 (Cc N c.1).bind λg=>
 cond (decide (g≤0)) (
 some ((upd p0_w.s.F a c.2),p0_w.s.N,p0_w.moves,p0_w.sent)) (
 chk (Hn (p0_w.moves.length+([(⟨p0_w.s.A,a,b.to_,b.way,c.1⟩:AX)]:List AX).length) 56) <|
 cond (decide (b.to_=(-1))) (
 (LS N p0_w.s.N c.1).bind λi=>
 some ((upd p0_w.s.F a c.2),i,(p0_w.moves++([(⟨p0_w.s.A,a,b.to_,b.way,c.1⟩:AX)]:List AX)),p0_w.sent)) (
 (Mk N (BG ((BG (p0_w.s.A+1))+b.delay)) b.to_ c.1).bind λd=>
 chk (Hn (p0_w.sent.length+d.length) 40) <|
 some ((upd p0_w.s.F a c.2),p0_w.s.N,(p0_w.moves++([(⟨p0_w.s.A,a,b.to_,b.way,c.1⟩:AX)]:List AX)),(p0_w.sent++d))))
def Ip (N:Nat) (a:Cb) (b:Int×Int×Bool) (c:Int):Option (Int×Int):=
 cond (decide ((BG (b.2.1+c))<a.S)) (
 some (b.1,(BG (b.2.1+c)))) (
 some ((BG (b.1+1)),(BG ((BG (b.2.1+c))-a.S))))
def L3 (N:Nat) (a:Cb) (d:Int) (b:Int):Option (Int×Int):=
 (HA N d a.T a.S).bind λc=>
 cond (!c.2.2) (
 some (0,0)) (
 cond ((decide (0≤b))&&(decide (b<a.S))) (
 Ip N a c b) (
 Ip N a c 0))
def Gr (N:Nat) (p0_w:A5) (d:Int) (o:Cb) (g:List (List Int)) (i:List Int) (j:List AX) (k:List BM) (l:Int×Int) (n:(List (List Int))→(List Int)→(List AX)→(List BM)→(List Int)→Option ((List (List Int))×(List Int)×(List Int)×(List AX)×(List BM))) (c:List Int):Option ((List (List Int))×(List Int)×(List Int)×(List AX)×(List BM)):=
 (Ho N l.1).bind λm=>
 (HN N (⟨p0_w.b,p0_w.in_,(⟨p0_w.s.A,g,c,p0_w.s.P,p0_w.s.Q,p0_w.s.O,i⟩:AJ),j,p0_w.peaks,k⟩:A5) d (⟨o.Ac,o.M,(-1),(λx=>AN N m x)⟩:AE)).bind λa=>
 n a.1 a.2.1 a.2.2.1 a.2.2.2 c
def D5 (N:Nat) (p0_w:A5) (d:Int) (o:Cb) (a:List (List Int)) (i:List Int) (j:List AX) (k:List BM) (g:List Int):Option ((List (List Int))×(List Int)×(List Int)×(List AX)×(List BM)):=
 (ix a d).bind λp=>
 (ix a d).bind λm=>
 (Cc N m).bind λl=>
 cond (decide (0<(BG (l-o.Az)))) (
 (Ho N (BG (l-o.Az))).bind λn=>
 (HN N (⟨p0_w.b,p0_w.in_,(⟨p0_w.s.A,a,g,p0_w.s.P,p0_w.s.Q,p0_w.s.O,i⟩:AJ),j,p0_w.peaks,k⟩:A5) d (⟨o.Ac,o.M,(-2),(λx=>AN N n x)⟩:AE)).bind λc=>
 some (c.1,g,c.2.1,c.2.2.1,c.2.2.2)) (
 some (a,g,i,j,k))
def Gs (N:Nat) (p0_w:A5) (a:Int) (j:Cb) (b:List (List Int)) (d:List Int) (g:List AX) (i:List BM):Option ((List (List Int))×(List Int)×(List Int)×(List AX)×(List BM)):=
 cond (decide (j.S≠0)) (
 (ix p0_w.peaks a).bind λo=>
 (ix p0_w.peaks a).bind λk=>
 (ix p0_w.s.K a).bind λp=>
 (ix p0_w.s.K a).bind λl=>
 (L3 N j k l).bind λc=>
 (ix p0_w.s.K a).bind λq=>
 (ix p0_w.s.K a).bind λt=>
 (ix b a).bind λu=>
 (ix b a).bind λm=>
 (Cc N m).bind λn=>
 cond (decide (c.1≤n)) (
 (ix (upd p0_w.s.K a 0) a).bind λv=>
 (ix (upd p0_w.s.K a 0) a).bind λw=>
 Gr N p0_w a j b d g i c (D5 N p0_w a j) (upd (upd p0_w.s.K a 0) a c.2)) (
 Gr N p0_w a j b d g i c (D5 N p0_w a j) (upd p0_w.s.K a 0))) (
 D5 N p0_w a j b d g i p0_w.s.K)
def FP (N:Nat) (p0_w:A5) (g:Int) (d:(List AE)) (m:(List (List Int))→(List Int)→(List AX)→(List BM)→Option ((List (List Int))×(List Int)×(List Int)×(List AX)×(List BM))):Nat→Int→(List (List Int))→(List Int)→(List AX)→(List BM)→Option ((List (List Int))×(List Int)×(List Int)×(List AX)×(List BM))
 |0,_,_,_,_,_=>none
 |p+1,a,i,j,k,l=>
 cond (decide (a<(↑d.length:Int))) (
 (ix d a).bind λo=>
 (ix d a).bind λn=>
 (HN N (⟨p0_w.b,p0_w.in_,(⟨p0_w.s.A,i,p0_w.s.K,p0_w.s.P,p0_w.s.Q,p0_w.s.O,j⟩:AJ),k,p0_w.peaks,l⟩:A5) g n).bind λc=>
 FP N p0_w g d m p (BG (a+1)) c.1 c.2.1 c.2.2.1 c.2.2.2) (
 m i j k l)
def Jy (N:Nat) (p0_w:A5) (a:Int):Option ((List (List Int))×(List Int)×(List Int)×(List AX)×(List BM)):=
 (ix p0_w.b.E a).bind λi=>
 (Jv N p0_w a).bind λc=>
 (Jz N p0_w a).bind λd=>
 (Ce N ([c,d]:List (List AE))).bind λg=>
 FP N p0_w a g (Gs N p0_w a i) N 0 p0_w.s.F p0_w.s.N p0_w.moves p0_w.sent
def J0 (N:Nat) (k:AJ) (c:(List (List Int))×(List Int)×(List AX)) (a:(List (List Int))×(List BM)×(List BE)×(List Int)) (d:List (List Int)) (g:List Int) (i:List Int) (j:List AX) (b:List BM):Option (AJ×(List AX)×(List Int)):=
 chk (Hn (a.2.1.length+b.length) 40) <|
 some ((⟨(BG (k.A+1)),d,g,(a.2.1++b),a.2.2.1,c.2.1,i⟩:AJ),j,a.2.2.2)
def IS (N:Nat) (c:AO) (d:E5) (o:AJ) (i:(List (List Int))×(List Int)×(List AX)) (b:(List (List Int))×(List BM)×(List BE)×(List Int)) (p:(List (List Int))→(List Int)→(List Int)→(List AX)→(List BM)→Option (AJ×(List AX)×(List Int))):Nat→Int→(List (List Int))→(List Int)→(List Int)→(List AX)→(List BM)→Option (AJ×(List AX)×(List Int))
 |0,_,_,_,_,_,_=>none
 |q+1,g,j,k,l,m,n=>
 cond (decide (g<(↑c.E.length:Int))) (
 (Jy N (⟨c,d,(⟨o.A,j,k,b.2.1,b.2.2.1,i.2.1,l⟩:AJ),m,b.2.2.2,n⟩:A5) g).bind λa=>
 IS N c d o i b p q (BG (g+1)) a.1 a.2.1 a.2.2.1 a.2.2.2.1 a.2.2.2.2) (
 p j k l m n)
def Lo (N:Nat) (a:AO) (j:AJ) (c:E5):Option (AJ×(List AX)×(List Int)):=
 (Ly N j).bind λb=>
 chk (KM (↑a.E.length:Int) (↑a.E.length:Int) 8) <|
 (Jx N (⟨a,c,b,([]:List AX),(List.replicate ((↑a.E.length:Int):Int).toNat (0:Int)),([]:List BM)⟩:A5)).bind λg=>
 (Jw N (⟨a,c,({ b with Q:=g}:AJ),([]:List AX),(List.replicate ((↑a.E.length:Int):Int).toNat (0:Int)),([]:List BM)⟩:A5)).bind λk=>
 (KU N (⟨a,c,(⟨b.A,k,b.K,b.P,g,b.O,b.N⟩:AJ),([]:List AX),(List.replicate ((↑a.E.length:Int):Int).toNat (0:Int)),([]:List BM)⟩:A5)).bind λd=>
 (IR N (⟨a,c,(⟨b.A,d.1,b.K,b.P,g,d.2.1,b.N⟩:AJ),d.2.2,(List.replicate ((↑a.E.length:Int):Int).toNat (0:Int)),([]:List BM)⟩:A5)).bind λi=>
 IS N a c b d i (J0 N b d i) N 0 i.1 b.K b.N d.2.2 ([]:List BM)
def JR (N:Nat) (a:List AJ) (b:List AX) (c:List (List Int)):Option ((List AJ)×(List AX)×(List (List Int))):=
 some (a,b,c)
def Hz (N:Nat) (c:AO) (b:(List E5)) (k:(List AJ)→(List AX)→(List (List Int))→Option ((List AJ)×(List AX)×(List (List Int)))):Nat→(List AJ)→(List AX)→(List (List Int))→Int→Int→(List (List Int))→(List Int)→(List BM)→(List BE)→(List Int)→(List Int)→Option ((List AJ)×(List AX)×(List (List Int)))
 |0,_,_,_,_,_,_,_,_,_,_,_=>none
 |u+1,d,g,i,j,m,n,o,p,q,s,t=>
 cond (decide (j<(↑b.length:Int))) (
 (ix b j).bind λl=>
 (Lo N c (⟨m,n,o,p,q,s,t⟩:AJ) l).bind λa=>
 chk (Hn (d.length+1) 152) <|
 chk (Hn (g.length+a.2.1.length) 56) <|
 chk (Hn (i.length+1) 24) <|
 Hz N c b k u (d++([a.1]:List AJ)) (g++a.2.1) (i++([a.2.2]:List (List Int))) (BG (j+1)) a.1.A a.1.F a.1.K a.1.P a.1.Q a.1.O a.1.N) (
 k d g i)
def Mj (N:Nat) (c:AO) (a:AJ) (b:(List E5)):Option ((List AJ)×(List AX)×(List (List Int))):=
 Hz N c b (JR N) N ([]:List AJ) ([]:List AX) ([]:List (List Int)) 0 a.A a.F a.K a.P a.Q a.O a.N
def EI (N:Nat) (a:List Int):Option (List Int):=
 some a
def H5 (N:Nat) (a:Int) (b:Int→(List Int)→Option (List Int)) (c:List Int):Option (List Int):=
 b (BG (a+1)) c
def DZ (N:Nat) (b:(List AX)) (c:Int) (a:Int) (d:Int) (k:(List Int)→Option (List Int)):Nat→Int→(List Int)→Option (List Int)
 |0,_,_=>none
 |o+1,j,i=>
 cond (decide (j<(↑b.length:Int))) (
 (ix b j).bind λg=>
 cond (((decide (g.D=c))&&(decide (a≤g.A)))&&(decide (g.A<d))) (
 (ix i (BG (g.A-a))).bind λp=>
 (ix i (BG (g.A-a))).bind λl=>
 (Cc N g.R).bind λm=>
 (Ej N l m).bind λn=>
 (ix i (BG (g.A-a))).bind λq=>
 (ix i (BG (g.A-a))).bind λs=>
 H5 N j (DZ N b c a d k o) (upd i (BG (g.A-a)) n)) (
 H5 N j (DZ N b c a d k o) i)) (
 k i)
def G9 (N:Nat) (c:(List AX)) (d:Int) (b:Int) (a:Int):Option (List Int):=
 (F9 N a b).bind λg=>
 cond ((decide (a≤b))||(decide (65536<g))) (
 some ([]:List Int)) (
 chk (KM g g 8) <|
 DZ N c d b a (EI N) N 0 (List.replicate (g:Int).toNat (0:Int)))
def Gl (N:Nat) (a:ByteArray) (i:Int) (j:Int) (c:Int→Option (Int×Int)):Nat→Int→Int→Option (Int×Int)
 |0,_,_=>none
 |k+1,d,b=>
 cond (decide (b≤i)) (
 (UG a b).bind λg=>
 Gl N a i j c k (EH .or .u64 (ED .u64 d 8) (IntKind.wrap .u64 (EH .xor .u8 g j))) (BG (b+1))) (
 c d)
def IB (N:Nat) (b:Int) (c:Int) (a:Int):Option (Int×Int):=
 cond (decide (9223372036854775807<a)) (
 some (0,0)) (
 cond (decide (c≠0)) (
 some ((BG ((BG (0-(BG a)))-1)),(BG (1+b)))) (
 some ((BG a),(BG (1+b)))))
def IC (N:Nat) (a:ByteArray) (b:Int) (c:Int):Option (Int×Int):=
 cond ((decide (8<b))||(decide ((↑a.size:Int)<(BG (1+b))))) (
 some (0,0)) (
 (cond (decide (0<b)) ((UG a 1).bind λd=>
 some (decide (d=c))) (some false)).bind λg=>
 cond g (
 some (0,0)) (
 Gl N a b c (IB N b c) N 0 1))
def LO (N:Nat) (a:ByteArray):Option (Int×Int):=
 cond (a==ByteArray.empty) (
 some (0,0)) (
 (UG a 0).bind λb=>
 cond (decide ((BG ((BG b)-128))<0)) (
 (UG a 0).bind λc=>
 IC N a (BG (127-(BG c))) 255) (
 IC N a (BG ((BG b)-128)) 0))
def Cv (N:Nat) (p0_r:AV):Option (Int×ByteArray×Bool):=
 cond p0_r.bad (
 some (0,p0_r.rest_,p0_r.bad)) (
 (LO N p0_r.rest_).bind λa=>
 cond (decide (a.2=0)) (
 some (0,p0_r.rest_,true)) (
 (subD p0_r.rest_ a.2).bind λb=>
 some (a.1,b,p0_r.bad)))
def Jc (N:Nat) (p0_r:AV):Option Int:=
 cond p0_r.bad (
 some 0) (
 some (↑p0_r.rest_.size:Int))
def Kn (N:Nat) (p0_r:AV):Option (Int×Bool×ByteArray×Bool):=
 (Cv N p0_r).bind λa=>
 (cond (decide (0≤a.1)) ((Jc N (⟨a.2.1,a.2.2⟩:AV)).bind λb=>
 some (decide (a.1≤b))) (some false)).bind λc=>
 some (a.1,c,a.2.1,a.2.2)
def E7 (N:Nat) (a:ByteArray) (b:Bool):Option ((List Int)×ByteArray×Bool):=
 some (([]:List Int),a,true)
def Do (N:Nat) (c:ByteArray→Bool→Option ((List Int)×ByteArray×Bool)):Nat→(List Int)→ByteArray→Bool→Option ((List Int)×ByteArray×Bool)
 |0,_,_,_=>none
 |k+1,d,b,a=>
 cond ((!a)&&(!(b==ByteArray.empty))) (
 (UG b 0).bind λj=>
 (subD b 1).bind λg=>
 cond (decide (j=0)) (
 some (d,g,a)) (
 cond (decide (j≠1)) (
 c g a) (
 (Cv N (⟨g,a⟩:AV)).bind λi=>
 chk (Hn (d.length+1) 8) <|
 Do N c k (d++([i.1]:List Int)) i.2.1 i.2.2))) (
 c b a)
def H8 (N:Nat) (p0_r:AV):Option ((List Int)×ByteArray×Bool):=
 Do N (E7 N) N ([]:List Int) p0_r.rest_ p0_r.bad
def D1 (N:Nat) (p0_r:AV):Option ((List Int)×ByteArray×Bool):=
 (H8 N p0_r).bind λa=>
 some (a.1,a.2.1,a.2.2)
def Jd (N:Nat) (p0_r:AV):Option Bool:=
 some ((!p0_r.bad)&&(p0_r.rest_==ByteArray.empty))
def JC (N:Nat) (g:Int×Bool×ByteArray×Bool) (l:ByteArray→Bool→(List BM)→Option (AJ×Bool×ByteArray×Bool)):Nat→Int→ByteArray→Bool→(List BM)→Option (AJ×Bool×ByteArray×Bool)
 |0,_,_,_,_=>none
 |m+1,i,j,k,a=>
 cond (decide (i<g.1)) (
 (Cv N (⟨j,k⟩:AV)).bind λb=>
 (Cv N (⟨b.2.1,b.2.2⟩:AV)).bind λc=>
 (D1 N (⟨c.2.1,c.2.2⟩:AV)).bind λd=>
 chk (Hn (a.length+1) 40) <|
 JC N g l m (BG (i+1)) d.2.1 d.2.2 (a++([(⟨b.1,c.1,d.1⟩:BM)]:List BM))) (
 l j k a)
def JB (N:Nat) (g:Int×Bool×ByteArray×Bool) (l:ByteArray→Bool→(List BE)→Option (AJ×Bool×ByteArray×Bool)):Nat→Int→ByteArray→Bool→(List BE)→Option (AJ×Bool×ByteArray×Bool)
 |0,_,_,_,_=>none
 |m+1,i,j,k,b=>
 cond (decide (i<g.1)) (
 (Cv N (⟨j,k⟩:AV)).bind λc=>
 (Cv N (⟨c.2.1,c.2.2⟩:AV)).bind λd=>
 (Cv N (⟨d.2.1,d.2.2⟩:AV)).bind λa=>
 chk (Hn (b.length+1) 24) <|
 JB N g l m (BG (i+1)) a.2.1 a.2.2 (b++([(⟨c.1,d.1,(decide ((EH .and .i64 a.1 1)≠0)),(decide ((EH .and .i64 a.1 2)≠0))⟩:BE)]:List BE))) (
 l j k b)
def Ka (N:Nat) (l:Int×ByteArray×Bool) (m:List (List Int)) (c:(List Int)×ByteArray×Bool) (d:List BM) (g:ByteArray) (i:Bool) (j:List BE):Option (AJ×Bool×ByteArray×Bool):=
 (D1 N (⟨g,i⟩:AV)).bind λb=>
 (D1 N (⟨b.2.1,b.2.2⟩:AV)).bind λa=>
 (Jd N (⟨a.2.1,a.2.2⟩:AV)).bind λk=>
 some ((⟨l.1,m,c.1,d,j,b.1,a.1⟩:AJ),k,a.2.1,a.2.2)
def Kb (N:Nat) (d:Int×ByteArray×Bool) (g:List (List Int)) (b:(List Int)×ByteArray×Bool) (i:ByteArray) (j:Bool) (c:List BM):Option (AJ×Bool×ByteArray×Bool):=
 (Kn N (⟨i,j⟩:AV)).bind λa=>
 cond (!a.2.1) (
 some ((⟨d.1,g,b.1,c,[],[],[]⟩:AJ),false,a.2.2.1,a.2.2.2)) (
 JB N a (Ka N d g b c) N 0 a.2.2.1 a.2.2.2 ([]:List BE))
def Kc (N:Nat) (c:Int×ByteArray×Bool) (g:ByteArray) (i:Bool) (d:List (List Int)):Option (AJ×Bool×ByteArray×Bool):=
 (D1 N (⟨g,i⟩:AV)).bind λb=>
 (Kn N (⟨b.2.1,b.2.2⟩:AV)).bind λa=>
 cond (!a.2.1) (
 some ((⟨c.1,d,b.1,[],[],[],[]⟩:AJ),false,a.2.2.1,a.2.2.2)) (
 JC N a (Kb N c d b) N 0 a.2.2.1 a.2.2.2 ([]:List BM))
def JD (N:Nat) (c:Int×Bool×ByteArray×Bool) (d:ByteArray→Bool→(List (List Int))→Option (AJ×Bool×ByteArray×Bool)):Nat→Int→ByteArray→Bool→(List (List Int))→Option (AJ×Bool×ByteArray×Bool)
 |0,_,_,_,_=>none
 |k+1,g,i,j,a=>
 cond (decide (g<c.1)) (
 (D1 N (⟨i,j⟩:AV)).bind λb=>
 chk (Hn (a.length+1) 24) <|
 JD N c d k (BG (g+1)) b.2.1 b.2.2 (a++([b.1]:List (List Int)))) (
 d i j a)
def OU (N:Nat) (p0_r:AV):Option (AJ×Bool×ByteArray×Bool):=
 (Cv N p0_r).bind λb=>
 (Kn N (⟨b.2.1,b.2.2⟩:AV)).bind λa=>
 cond (!a.2.1) (
 some ((⟨b.1,[],[],[],[],[],[]⟩:AJ),false,a.2.2.1,a.2.2.2)) (
 JD N a (Kc N b) N 0 a.2.2.1 a.2.2.2 ([]:List (List Int)))
def K8 (N:Nat) (b:(List Int)) (a:Int):Option Bool:=
 (cond (((decide (0≤a))&&(decide (a≤16)))&&(decide ((↑b.length:Int)=a))) ((K7 N b).bind λc=>
 some c) (some false)).bind λd=>
 some d
def HL (N:Nat) (b:AO) (a:AJ) (j:Int→Option (Int×Bool)):Nat→Int→Int→Option (Int×Bool)
 |0,_,_=>none
 |o+1,g,i=>
 cond (decide (i<(↑a.P.length:Int))) (
 (ix a.P i).bind λd=>
 (cond (decide (d.Aq<a.A)) (some true) ((E9 N d.B (↑b.E.length:Int)).bind λk=>
 some (!k))).bind λl=>
 (cond l (some true) ((K8 N d.R (↑b.I.length:Int)).bind λm=>
 some (!m))).bind λn=>
 cond n (
 some (0,false)) (
 (Cc N d.R).bind λc=>
 cond ((decide (c≤0))||(decide (1125899906842624<(BG (g+c))))) (
 some (0,false)) (
 HL N b a j o (BG (g+c)) (BG (i+1))))) (
 j g)
def Ih (N:Nat) (a:Int):Option (Int×Bool):=
 some (a,true)
def Ii (N:Nat) (a:AO) (b:AJ) (c:Int):Option (Int×Bool):=
 HL N a b (Ih N) N c 0
def HM (N:Nat) (b:AO) (a:AJ) (g:Int→Option (Int×Bool)):Nat→Int→Int→Option (Int×Bool)
 |0,_,_=>none
 |l+1,c,d=>
 cond (decide (d<(↑a.F.length:Int))) (
 (ix a.F d).bind λi=>
 (K8 N i (↑b.I.length:Int)).bind λk=>
 cond (!k) (
 some (0,false)) (
 (Cc N i).bind λj=>
 cond (decide (1125899906842624<(BG (c+j)))) (
 some (0,false)) (
 HM N b a g l (BG (c+j)) (BG (d+1))))) (
 g c)
def Lx (N:Nat) (a:AO) (b:AJ):Option (Int×Bool):=
 HM N a b (Ii N a b) N 0 0
def ID (N:Nat) (a:Int):Option (Int×Bool):=
 some (a,true)
def Gm (N:Nat) (b:(List Int)) (a:Int) (g:Int→Option (Int×Bool)):Nat→Int→Int→Option (Int×Bool)
 |0,_,_=>none
 |j+1,i,c=>
 cond (decide (c<(↑b.length:Int))) (
 (ix b c).bind λd=>
 cond ((decide (d<0))||(decide ((BG (a-i))<d))) (
 some (0,false)) (
 Gm N b a g j (BG (i+d)) (BG (c+1)))) (
 g i)
def Ju (N:Nat) (b:(List Int)) (a:Int):Option (Int×Bool):=
 Gm N b a (ID N) N 0 0
def Hx (N:Nat) (d:AO) (g:AJ) (i:Option Bool):Nat→Int→Option Bool
 |0,_=>none
 |j+1,b=>
 cond (decide (b<(↑d.J.length:Int))) (
 (ix d.J b).bind λc=>
 (ix g.Q b).bind λa=>
 cond ((((decide (a.Ah<0))||(decide (c.Ad<a.Ah)))||(decide (a.V<0)))||(decide (c.Ad<a.V))) (
 some false) (
 cond ((a.Ae&&(decide (c.L≠5)))&&(decide (c.L≠3))) (
 some false) (
 Hx N d g i j (BG (b+1))))) (
 i)
def JN (N:Nat) (d:AO) (a:AJ):Option Bool:=
 (Lx N d a).bind λb=>
 cond (!b.2) (
 some false) (
 (Ju N a.O 1152921504606846976).bind λc=>
 cond (!c.2) (
 some false) (
 (Ju N a.N (BG ((BG (c.1+1125899906842624))-b.1))).bind λg=>
 some g.2))
def JO (N:Nat) (a:AO) (b:AJ):Option Bool:=
 Hx N a b (JN N a b) N 0
def Hy (N:Nat) (a:AO) (b:AJ) (d:Option Bool):Nat→Int→Option Bool
 |0,_=>none
 |l+1,c=>
 cond (decide (c<(↑a.E.length:Int))) (
 (ix a.E c).bind λk=>
 (ix b.K c).bind λg=>
 (cond (decide (g<0)) (some true) ((ix b.K c).bind λi=>
 some (decide ((max 0 (BG (k.S-1)))<i)))).bind λj=>
 cond j (
 some false) (
 Hy N a b d l (BG (c+1)))) (
 d)
def Mf (N:Nat) (b:AO) (a:AJ):Option Bool:=
 cond (((((((decide (a.A<0))||(decide (16777216<a.A)))||(decide ((↑a.F.length:Int)≠(↑b.E.length:Int))))||(decide ((↑a.K.length:Int)≠(↑b.E.length:Int))))||(decide ((↑a.Q.length:Int)≠(↑b.J.length:Int))))||(decide ((↑a.O.length:Int)≠(↑b.I.length:Int))))||(decide ((↑a.N.length:Int)≠(↑b.I.length:Int)))) (
 some false) (
 Hy N b a (JO N b a) N 0)
def C0 (N:Nat):Nat→Int→Int→(List Int)→Option (List Int)
 |0,_,_,_=>none
 |i+1,b,c,a=>
 cond (decide (b<c)) (
 (ix a c).bind λj=>
 (ix a c).bind λd=>
 (ix a b).bind λk=>
 (ix a b).bind λg=>
 (ix a b).bind λl=>
 (ix a b).bind λm=>
 (ix (upd a b d) c).bind λn=>
 (ix (upd a b d) c).bind λo=>
 C0 N i (BG (b+1)) (BG (c-1)) (upd (upd a b d) c g)) (
 some a)
def GH (N:Nat) (a:(List Int)):Option (List Int):=
 C0 N N 0 (BG ((↑a.length:Int)-1)) a
def Ig (N:Nat) (a:Int) (b:Int) (c:List Int):Option (List Int):=
 chk (Hn (c.length+1) 1) <|
 (GH N (c++([(IntKind.wrap .u8 (BG (a+(BG (b*(↑c.length:Int))))))]:List Int))).bind λd=>
 some d
def HK (N:Nat) (a:Int) (d:(List Int)→Option (List Int)):Nat→Int→(List Int)→Option (List Int)
 |0,_,_=>none
 |g+1,b,c=>
 cond (decide (0<b)) (
 chk (Hn (c.length+1) 1) <|
 HK N a d g (Dn .u64 b 8) (c++([(EH .xor .u8 (IntKind.wrap .u8 b) a)]:List Int))) (
 d c)
def KZ (N:Nat) (d:Int) (a:Int) (b:Int) (c:Int):Option (List Int):=
 chk (KM 0 9 1) <|
 HK N c (Ig N a b) N d (List.replicate (0:Int).toNat (0:Int))
def Fj (N:Nat) (a:Int):Option ByteArray:=
 cond (decide (0≤a)) (
 (KZ N (IntKind.wrap .u64 a) 128 1 0).bind λg=>
 (aU g).bind λb=>
 some b) (
 (KZ N (IntKind.wrap .u64 (BG (0-(BG (a+1))))) 127 (-1) 255).bind λc=>
 (aU c).bind λd=>
 some d)
def E8 (N:Nat) (c:ByteArray):Option ByteArray:=
 (Z4 N c 0).bind λa=>
 (Z3 N a).bind λb=>
 some b
def Dp (N:Nat) (a:(List Int)) (c:ByteArray→Option ByteArray):Nat→Int→ByteArray→Option ByteArray
 |0,_,_=>none
 |l+1,b,d=>
 cond (decide (b<(↑a.length:Int))) (
 (ix a b).bind λg=>
 (Z4 N d 1).bind λi=>
 (Fj N g).bind λj=>
 (N8 N i j).bind λk=>
 Dp N a c l (BG (b+1)) k) (
 c d)
def H9 (N:Nat) (a:(List Int)):Option ByteArray:=
 Dp N a (E8 N) N 0 ByteArray.empty
def IQ (N:Nat) (a:(List Int)):Option ByteArray:=
 (H9 N a).bind λb=>
 some b
def IT (N:Nat) (a:AJ) (g:ByteArray→Option ByteArray):Nat→Int→ByteArray→Option ByteArray
 |0,_,_=>none
 |o+1,b,d=>
 cond (decide (b<(↑a.P.length:Int))) (
 (ix a.P b).bind λc=>
 (Fj N c.Aq).bind λi=>
 (N8 N d i).bind λj=>
 (Fj N c.B).bind λk=>
 (N8 N j k).bind λl=>
 (IQ N c.R).bind λm=>
 (N8 N l m).bind λn=>
 IT N a g o (BG (b+1)) n) (
 g d)
def J1 (N:Nat) (b:Int) (c:ByteArray) (a:BE) (n:Int→ByteArray→Option ByteArray) (d:Int):Option ByteArray:=
 (Fj N a.Ah).bind λg=>
 (N8 N c g).bind λi=>
 (Fj N a.V).bind λj=>
 (N8 N i j).bind λk=>
 (Fj N d).bind λl=>
 (N8 N k l).bind λm=>
 n (BG (b+1)) m
def J2 (N:Nat) (b:Int) (c:ByteArray) (a:BE) (g:Int→ByteArray→Option ByteArray) (d:Int):Option ByteArray:=
 cond a.Ae (
 J1 N b c a g (BG (d+2))) (
 J1 N b c a g d)
def FT (N:Nat) (a:AJ) (g:ByteArray→Option ByteArray):Nat→Int→ByteArray→Option ByteArray
 |0,_,_=>none
 |i+1,b,c=>
 cond (decide (b<(↑a.Q.length:Int))) (
 (ix a.Q b).bind λd=>
 cond d.An (
 J2 N b c d (FT N a g i) (BG (0+1))) (
 J2 N b c d (FT N a g i) 0)) (
 g c)
def HR (N:Nat) (a:AJ) (b:ByteArray):Option ByteArray:=
 (IQ N a.O).bind λc=>
 (N8 N b c).bind λd=>
 (IQ N a.N).bind λg=>
 (N8 N d g).bind λi=>
 (Z3 N i).bind λj=>
 some j
def J3 (N:Nat) (a:AJ) (b:ByteArray):Option ByteArray:=
 (Fj N (↑a.Q.length:Int)).bind λc=>
 (N8 N b c).bind λd=>
 FT N a (HR N a) N 0 d
def J4 (N:Nat) (a:AJ) (i:ByteArray):Option ByteArray:=
 (IQ N a.K).bind λb=>
 (N8 N i b).bind λc=>
 (Fj N (↑a.P.length:Int)).bind λd=>
 (N8 N c d).bind λg=>
 IT N a (J3 N a) N 0 g
def IU (N:Nat) (a:AJ) (c:ByteArray→Option ByteArray):Nat→Int→ByteArray→Option ByteArray
 |0,_,_=>none
 |k+1,b,d=>
 cond (decide (b<(↑a.F.length:Int))) (
 (ix a.F b).bind λg=>
 (IQ N g).bind λi=>
 (N8 N d i).bind λj=>
 IU N a c k (BG (b+1)) j) (
 c d)
def Lq (N:Nat) (a:AJ):Option ByteArray:=
 (Fj N a.A).bind λb=>
 (N8 N ByteArray.empty b).bind λc=>
 (Fj N (↑a.F.length:Int)).bind λd=>
 (N8 N c d).bind λg=>
 IU N a (J4 N a) N 0 g
def Mh (N:Nat) (c:AO) (b:ByteArray):Option (AJ×Bool):=
 (Xp N b).bind λd=>
 (OU N d).bind λa=>
 (cond (!a.2.1) (some true) ((Mf N c a.1).bind λg=>
 some (!g))).bind λi=>
 (cond i (some true) ((Lq N a.1).bind λj=>
 some (!(j==b)))).bind λk=>
 cond k (
 some ((⟨0,[],[],[],[],[],[]⟩:AJ),false)) (
 some (a.1,true))
def G8 (N:Nat) (b:AO) (a:Int):Option Bool:=
 some ((decide (0≤a))&&(decide (a<(↑b.E.length:Int))))
def Gf (N:Nat) (b:Int) (a:Int):Option (Int×Int):=
 some (b,a)
def Ge (N:Nat) (a:Int) (b:Int→Int→Int→Option (Int×Int)) (c:Int) (d:Int):Option (Int×Int):=
 b c d (BG (a+1))
def JQ (N:Nat) (a:Int) (b:Int) (c:AX) (k:Cb) (l:Bool) (d:Int→Int→Option (Int×Int)) (g:Int):Option (Int×Int):=
 cond (((decide (k.Al=a))&&(!l))&&(decide (c.Aw≠(-3)))) (
 (Cc N c.R).bind λi=>
 (Ej N b i).bind λj=>
 d g j) (
 d g b)
def Dy (N:Nat) (c:AO) (b:(List AX)) (a:Int) (i:Int→Int→Option (Int×Int)):Nat→Int→Int→Int→Option (Int×Int)
 |0,_,_,_=>none
 |p+1,j,k,g=>
 cond (decide (g<(↑b.length:Int))) (
 (ix b g).bind λd=>
 (G8 N c d.D).bind λq=>
 (cond (!q) (some true) ((cond (decide (d.B≠(-1))) ((G8 N c d.B).bind λs=>
 some (!s)) (some false)).bind λt=>
 some t)).bind λu=>
 cond u (
 Ge N g (Dy N c b a i p) j k) (
 (ix c.E d.D).bind λl=>
 (cond (decide (d.B≠(-1))) ((ix c.E d.B).bind λv=>
 some (decide (v.Al=a))) (some false)).bind λm=>
 cond ((!(decide (l.Al=a)))&&m) (
 (Cc N d.R).bind λn=>
 (Ej N j n).bind λo=>
 JQ N a k d l m (Ge N g (Dy N c b a i p)) o) (
 JQ N a k d l m (Ge N g (Dy N c b a i p)) j))) (
 i j k)
def Mi (N:Nat) (c:AO) (b:(List AX)) (a:Int):Option (Int×Int):=
 Dy N c b a (Gf N) N 0 0 0
def CO (N:Nat) (c:Int) (b:Int) (a:Int):Option Bool:=
 some ((decide (b≤c))&&(decide (c≤a)))
def CH (N:Nat) (a:Int):Option Bool:=
 (CO N a 0 1125899906842624).bind λb=>
 some b
def FZ (N:Nat) (a:AO) (c:Option Bool):Nat→Int→Option Bool
 |0,_=>none
 |i+1,b=>
 cond (decide (b<(↑a.X.length:Int))) (
 (ix a.X b).bind λd=>
 (CH N d).bind λg=>
 cond (!g) (
 some false) (
 FZ N a c i (BG (b+1)))) (
 c)
def G1 (N:Nat):Option Bool:=
 some true
def G2 (N:Nat) (a:AO):Option Bool:=
 FZ N a (G1 N) N 0
def Fa (N:Nat) (a:AO) (d:Option Bool):Nat→Int→Option Bool
 |0,_=>none
 |g+1,c=>
 cond (decide (c<(↑a.C.size:Int))) (
 (UG a.C c).bind λb=>
 cond ((((decide (b<32))||(decide (126<b)))||(decide (b=34)))||(decide (b=92))) (
 some false) (
 Fa N a d g (BG (c+1)))) (
 d)
def KE (N:Nat) (a:AO):Option Bool:=
 (cond (decide (500<(↑a.C.size:Int))) (some true) ((CO N (↑a.I.length:Int) 1 16).bind λb=>
 some (!b))).bind λc=>
 (cond c (some true) ((CO N a.H 0 64).bind λd=>
 some (!d))).bind λg=>
 (cond g (some true) ((CO N (↑a.E.length:Int) 1 64).bind λi=>
 some (!i))).bind λj=>
 (cond ((((((j||(decide (96<(↑a.J.length:Int))))||(decide (40<(↑a.U.length:Int))))||(decide (128<(↑a.W.length:Int))))||(decide (128<(↑a.Y.length:Int))))||(decide (40<(↑a.Z.length:Int))))||(decide ((↑a.X.length:Int)≠3))) (some true) ((CO N a.G 0 1099511627776).bind λk=>
 some (!k))).bind λl=>
 cond l (
 some false) (
 Fa N a (G2 N a) N 0)
def IH (N:Nat):Option Bool:=
 some true
def G3 (N:Nat) (a:ByteArray) (d:Option Bool):Nat→Int→Option Bool
 |0,_=>none
 |g+1,c=>
 cond (decide (c<(↑a.size:Int))) (
 (UG a c).bind λb=>
 cond ((((decide (b<97))||(decide (122<b)))&&((decide (b<48))||(decide (57<b))))&&(decide (b≠95))) (
 some false) (
 G3 N a d g (BG (c+1)))) (
 d)
def LX (N:Nat) (a:ByteArray):Option Bool:=
 (cond (((decide ((↑a.size:Int)<1))||(decide (24<(↑a.size:Int))))||(a==(ByteArray.mk #[111,117,116]))) (some true) ((UG a 0).bind λb=>
 some (decide (b<97)))).bind λc=>
 (cond c (some true) ((UG a 0).bind λd=>
 some (decide (122<d)))).bind λg=>
 cond g (
 some false) (
 G3 N a (IH N) N 1)
def Ix (N:Nat) (a:(List (AG×Bool))) (b:ByteArray) (d:ByteArray):Option (Bool×(List (AG×Bool))):=
 (LX N b).bind λc=>
 cond ((!c)||((ML (λk:AG=>Value.agg (AG.v k).toArray) a (⟨d,b⟩:AG)).getD false)) (
 some (false,a)) (
 some (true,(PM (λk:AG=>Value.agg (AG.v k).toArray) a (⟨d,b⟩:AG) true)))
def L5 (N:Nat) (a:(List (AG×Bool))) (b:ByteArray) (c:ByteArray):Option (Bool×(List (AG×Bool))):=
 cond (b==(ByteArray.mk #[115,104,101,108,116,101,114])) (
 Ix N a c (ByteArray.mk #[116,111,119,110])) (
 Ix N a c b)
def Cm (N:Nat) (c2_:(List (AG×Bool))) (c3_:Bool) (a:ByteArray) (b:ByteArray):Option ((List (AG×Bool))×Bool):=
 (L5 N c2_ a b).bind λc=>
 some (c.2,(c.1&&c3_))
def Ex (N:Nat) (a:AO) (d:Bool→((List (AG×Bool)))→Option Bool):Nat→Int→Bool→((List (AG×Bool)))→Option Bool
 |0,_,_,_=>none
 |k+1,c,g,i=>
 cond (decide (c<(↑a.E.length:Int))) (
 (ix a.E c).bind λj=>
 (Cm N i g (ByteArray.mk #[112,108,97,99,101]) j.C).bind λb=>
 Ex N a d k (BG (c+1)) b.2 b.1) (
 d g i)
def Ew (N:Nat) (a:AO) (i:Bool→((List (AG×Bool)))→Option Bool):Nat→Int→Bool→((List (AG×Bool)))→Option Bool
 |0,_,_,_=>none
 |k+1,b,c,d=>
 cond (decide (b<(↑a.J.length:Int))) (
 (ix a.J b).bind λj=>
 (Cm N d c (ByteArray.mk #[108,105,110,107]) j.C).bind λg=>
 Ew N a i k (BG (b+1)) g.2 g.1) (
 i c d)
def Ev (N:Nat) (a:AO) (i:Bool→((List (AG×Bool)))→Option Bool):Nat→Int→Bool→((List (AG×Bool)))→Option Bool
 |0,_,_,_=>none
 |k+1,b,c,d=>
 cond (decide (b<(↑a.U.length:Int))) (
 (ix a.U b).bind λj=>
 (Cm N d c (ByteArray.mk #[116,111,119,110]) j.C).bind λg=>
 Ev N a i k (BG (b+1)) g.2 g.1) (
 i c d)
def Eu (N:Nat) (a:AO) (i:Bool→((List (AG×Bool)))→Option Bool):Nat→Int→Bool→((List (AG×Bool)))→Option Bool
 |0,_,_,_=>none
 |k+1,b,c,d=>
 cond (decide (b<(↑a.Z.length:Int))) (
 (ix a.Z b).bind λj=>
 (Cm N d c (ByteArray.mk #[115,104,101,108,116,101,114]) j.C).bind λg=>
 Eu N a i k (BG (b+1)) g.2 g.1) (
 i c d)
def EW (N:Nat) (a:AO) (c:Bool→((List (AG×Bool)))→Option Bool):Nat→Int→Bool→((List (AG×Bool)))→Option Bool
 |0,_,_,_=>none
 |k+1,b,d,g=>
 cond (decide (b<(↑a.W.length:Int))) (
 (ix a.W b).bind λj=>
 (Cm N g d (ByteArray.mk #[103,97,117,103,101]) j.C).bind λi=>
 EW N a c k (BG (b+1)) i.2 i.1) (
 c d g)
def EV (N:Nat) (a:AO) (c:Bool→Option Bool):Nat→Int→Bool→((List (AG×Bool)))→Option Bool
 |0,_,_,_=>none
 |k+1,b,d,i=>
 cond (decide (b<(↑a.Y.length:Int))) (
 (ix a.Y b).bind λj=>
 (Cm N i d (ByteArray.mk #[114,111,97,100]) j.C).bind λg=>
 EV N a c k (BG (b+1)) g.2 g.1) (
 c d)
def F5 (N:Nat) (a:Bool):Option Bool:=
 some a
def F6 (N:Nat) (a:AO) (b:Bool) (c:(List (AG×Bool))):Option Bool:=
 EV N a (F5 N) N 0 b c
def GS (N:Nat) (a:AO) (b:Bool) (c:(List (AG×Bool))):Option Bool:=
 EW N a (F6 N a) N 0 b c
def GT (N:Nat) (a:AO) (b:Bool) (c:(List (AG×Bool))):Option Bool:=
 Eu N a (GS N a) N 0 b c
def GU (N:Nat) (a:AO) (b:Bool) (c:(List (AG×Bool))):Option Bool:=
 Ev N a (GT N a) N 0 b c
def GV (N:Nat) (a:AO) (b:Bool) (c:(List (AG×Bool))):Option Bool:=
 Ew N a (GU N a) N 0 b c
def GW (N:Nat) (a:AO) (b:Bool) (c:(List (AG×Bool))):Option Bool:=
 Ex N a (GV N a) N 0 b c
def Ey (N:Nat) (a:AO) (c:Bool→((List (AG×Bool)))→Option Bool):Nat→Int→Bool→((List (AG×Bool)))→Option Bool
 |0,_,_,_=>none
 |k+1,b,d,g=>
 cond (decide (b<(↑a.I.length:Int))) (
 (ix a.I b).bind λj=>
 (Cm N g d (ByteArray.mk #[111,119,110,101,114]) j).bind λi=>
 Ey N a c k (BG (b+1)) i.2 i.1) (
 c d g)
def Ji (N:Nat) (a:AO):Option Bool:=
 Ey N a (GW N a) N 0 true ([]:(List (AG×Bool)))
def Hf (N:Nat) (a:Int) (b:Int):Option Bool:=
 (CH N a).bind λc=>
 (cond c ((CH N b).bind λd=>
 some d) (some false)).bind λg=>
 some (g&&((decide (b≠0))||(decide (a=0))))
def FB (N:Nat) (b:Int) (a:Int):Option Bool:=
 (CO N b 0 (BG (a-1))).bind λc=>
 some c
def KD (N:Nat) (c:AO) (b:Int) (a:Int):Option Bool:=
 (cond (decide (a=(-1))) (some true) ((FB N a (↑c.E.length:Int)).bind λd=>
 some (d&&(decide (a≠b))))).bind λg=>
 some g
def Ck (N:Nat) (a:Int):Option Bool:=
 some (decide (a≤1125899906842624))
def EU (N:Nat) (d:Cb) (g:Int→Option Bool):Nat→Int→Int→Option Bool
 |0,_,_=>none
 |j+1,b,a=>
 cond (decide (a<(↑d.Bf.length:Int))) (
 (ix d.Bf a).bind λc=>
 (CH N c).bind λi=>
 cond (!i) (
 some false) (
 EU N d g j (BG (b+c)) (BG (a+1)))) (
 g b)
def ET (N:Nat) (c:AO) (g:Cb) (d:Int) (i:Int→Option Bool):Nat→Int→Int→Option Bool
 |0,_,_=>none
 |m+1,j,b=>
 cond (decide (b<(↑g.Aa.length:Int))) (
 (ix g.Aa b).bind λa=>
 (cond ((decide (a.Bg≤j))||(decide (c.H≤a.Bg))) (some true) ((CH N a.Bk).bind λk=>
 some (!k))).bind λl=>
 cond l (
 some false) (
 ET N c g d i m a.Bg (BG (b+1)))) (
 i d)
def Fy (N:Nat) (a:AO) (c:Cb) (d:Int→Option Bool) (b:Int):Option Bool:=
 ET N a c b d N (-1) 0
def Dc (N:Nat) (a:Int) (b:Int→Int→Option Bool) (c:Int):Option Bool:=
 b c (BG (a+1))
def CZ (N:Nat) (b:AO) (d:Int→Option Bool):Nat→Int→Int→Option Bool
 |0,_,_=>none
 |y+1,g,c=>
 cond (decide (c<(↑b.E.length:Int))) (
 (ix b.E c).bind λa=>
 (CO N a.L 0 3).bind λj=>
 (cond (!j) (some true) ((CO N a.Al 0 2).bind λk=>
 some (!k))).bind λl=>
 (cond l (some true) ((CO N a.M 0 240).bind λm=>
 some (!m))).bind λn=>
 (cond n (some true) ((CH N a.Az).bind λo=>
 some (!o))).bind λp=>
 (cond p (some true) ((CH N a.Be).bind λq=>
 some (!q))).bind λs=>
 (cond s (some true) ((FA N a.Bt).bind λt=>
 some (!t))).bind λu=>
 (cond (u||(decide ((↑a.Bf.length:Int)≠(↑b.I.length:Int)))) (some true) ((Hf N a.T a.S).bind λv=>
 some (!v))).bind λw=>
 (cond w (some true) ((KD N b c a.Ac).bind λi=>
 some (!i))).bind λx=>
 cond x (
 some false) (
 EU N a (Fy N b a (Dc N c (CZ N b d y))) N g 0)) (
 d g)
def I4 (N:Nat) (a:AO):Option Bool:=
 CZ N a (Ck N) N 0 0
def HY (N:Nat) (b:(List CP)) (a:(List CP)) (i:Option Bool):Nat→Int→Option Bool
 |0,_=>none
 |j+1,c=>
 cond (decide (c<(↑a.length:Int))) (
 (ix a c).bind λd=>
 (JH N b d.Ax).bind λg=>
 cond ((decide (d.Ay<g.1))||((decide (g.1=d.Ay))&&g.2)) (
 some false) (
 HY N b a i j (BG (c+1)))) (
 i)
def It (N:Nat):Option Bool:=
 some true
def Iu (N:Nat) (a:(List CP)) (b:(List CP)):Option Bool:=
 HY N a b (It N) N 0
def HZ (N:Nat) (a:(List CP)) (b:(List CP)) (d:Option Bool):Nat→Int→Option Bool
 |0,_=>none
 |j+1,c=>
 cond (decide (c<(↑a.length:Int))) (
 (ix a c).bind λg=>
 (JH N b g.Ax).bind λi=>
 cond (decide (i.1<g.Ay)) (
 some false) (
 HZ N a b d j (BG (c+1)))) (
 d)
def Ki (N:Nat) (a:(List CP)) (b:(List CP)):Option Bool:=
 (FA N a).bind λc=>
 (cond (!c) (some true) ((FA N b).bind λd=>
 some (!d))).bind λg=>
 cond g (
 some false) (
 HZ N a b (Iu N a b) N 0)
def F8 (N:Nat) (a:BY) (b:Bool):Option Bool:=
 cond b (
 (CH N a.Av).bind λc=>
 (cond c ((CH N a.T).bind λd=>
 some d) (some false)).bind λg=>
 (cond g ((CO N a.S 1 1125899906842624).bind λi=>
 some i) (some false)).bind λj=>
 some j) (
 cond (decide (a.L=2)) (
 (CH N a.T).bind λk=>
 (cond k ((CO N a.Ad 1 64).bind λl=>
 some l) (some false)).bind λm=>
 (cond m ((CO N a.Ar 0 a.Ad).bind λn=>
 some n) (some false)).bind λo=>
 some o) (
 cond (decide (a.L=3)) (
 (CH N a.T).bind λp=>
 (cond p ((CO N a.S 1 1125899906842624).bind λq=>
 some q) (some false)).bind λs=>
 (cond s ((CH N a.As).bind λt=>
 some t) (some false)).bind λu=>
 (cond u ((CH N a.At).bind λv=>
 some v) (some false)).bind λw=>
 some (w&&(decide (a.At<a.As)))) (
 (CH N a.T).bind λx=>
 (cond x ((CO N a.S 1 1125899906842624).bind λy=>
 some y) (some false)).bind λz=>
 (cond z ((Hf N a.Ap a.Am).bind λA=>
 some A) (some false)).bind λC=>
 some (C&&(decide (a.B≠(-1)))))))
def I6 (N:Nat) (a:BY):Option Bool:=
 cond (decide (a.L=0)) (
 (FA N a.Bd).bind λb=>
 (cond b ((FA N a.Ao.Ba).bind λc=>
 some c) (some false)).bind λd=>
 (cond d ((FA N a.Ao.Bb).bind λg=>
 some g) (some false)).bind λi=>
 (cond i ((Ki N a.Ao.Ba a.Bd).bind λj=>
 some j) (some false)).bind λk=>
 (cond k ((Ki N a.Bd a.Ao.Bb).bind λl=>
 some l) (some false)).bind λm=>
 (cond m ((CO N a.Ad 0 64).bind λn=>
 some n) (some false)).bind λo=>
 (cond o ((CO N a.Ar 0 a.Ad).bind λp=>
 some p) (some false)).bind λq=>
 (cond q ((CH N a.Au).bind λs=>
 some s) (some false)).bind λt=>
 (cond t ((Hf N a.Ap a.Am).bind λu=>
 some u) (some false)).bind λv=>
 some (v&&((decide (a.B≠(-1)))||(decide (a.Am=0))))) (
 cond (decide (a.L=1)) (
 F8 N a (decide (a.L=1))) (
 F8 N a (decide (a.L=5))))
def I2 (N:Nat) (a:BY):Option Bool:=
 cond ((!(decide (a.L=0)))&&((((decide (0<(↑a.Bd.length:Int)))||(decide (0<(↑a.Ao.Ba.length:Int))))||(decide (0<(↑a.Ao.Bb.length:Int))))||(decide (a.Au≠0)))) (
 some false) (
 cond (((!(decide (a.L=0)))&&(decide (a.L≠2)))&&((decide (a.Ad≠0))||(decide (a.Ar≠0)))) (
 some false) (
 cond (((decide (a.L≠1))&&(decide (a.L≠5)))&&(decide (a.Av≠0))) (
 some false) (
 cond (((decide (a.L=0))&&(decide (a.T≠0)))||(((decide (a.L=0))||(decide (a.L=2)))&&(decide (a.S≠0)))) (
 some false) (
 cond ((decide (a.L≠3))&&((decide (a.As≠0))||(decide (a.At≠0)))) (
 some false) (
 some (((decide (a.L=0))||(decide (a.L=4)))||((decide (a.Ap=0))&&(decide (a.Am=0)))))))))
def GX (N:Nat):Option Bool:=
 some true
def Ez (N:Nat) (a:AO) (d:Option Bool):Nat→Int→Option Bool
 |0,_=>none
 |t+1,c=>
 cond (decide (c<(↑a.J.length:Int))) (
 (ix a.J c).bind λb=>
 (CO N b.L 0 5).bind λg=>
 (cond (!g) (some true) ((FB N b.D (↑a.E.length:Int)).bind λi=>
 some (!i))).bind λj=>
 (cond j (some true) ((KD N a b.D b.B).bind λk=>
 some (!k))).bind λl=>
 (cond l (some true) ((CO N b.M 0 240).bind λm=>
 some (!m))).bind λn=>
 (cond n (some true) ((I6 N b).bind λo=>
 some (!o))).bind λp=>
 (cond p (some true) ((I2 N b).bind λq=>
 some (!q))).bind λs=>
 cond s (
 some false) (
 Ez N a d t (BG (c+1)))) (
 d)
def Jj (N:Nat) (a:AO):Option Bool:=
 Ez N a (GX N) N 0
def K9 (N:Nat) (c:AO) (a:Int) (b:Int):Option Bool:=
 cond (decide (b=(-1))) (
 some (decide (a=2))) (
 (ix c.E b).bind λd=>
 some ((decide (d.Al=a))||(decide (d.Al=(BG (a+1))))))
def EA (N:Nat) (a:AO) (g:Option Bool):Nat→Int→Option Bool
 |0,_=>none
 |m+1,d=>
 cond (decide (d<(↑a.J.length:Int))) (
 (ix a.J d).bind λb=>
 (ix a.E b.D).bind λc=>
 (K9 N a c.Al b.B).bind λi=>
 (cond (!i) (some true) ((cond (decide (b.L=4)) ((ix a.E b.B).bind λj=>
 some (decide (j.Al≠c.Al))) (some false)).bind λk=>
 some k)).bind λl=>
 cond l (
 some false) (
 EA N a g m (BG (d+1)))) (
 g)
def Fe (N:Nat):Option Bool:=
 some true
def Ff (N:Nat) (a:AO):Option Bool:=
 EA N a (Fe N) N 0
def EB (N:Nat) (a:AO) (c:Option Bool):Nat→Int→Option Bool
 |0,_=>none
 |i+1,b=>
 cond (decide (b<(↑a.E.length:Int))) (
 (ix a.E b).bind λd=>
 (K9 N a d.Al d.Ac).bind λg=>
 cond (!g) (
 some false) (
 EB N a c i (BG (b+1)))) (
 c)
def Ib (N:Nat) (a:AO):Option Bool:=
 EB N a (Ff N a) N 0
def Iw (N:Nat) (a:Int):Option Int:=
 some (BG a)
def GA (N:Nat) (b:Int) (a:Int):Option Int:=
 cond (decide (a=0)) (
 some 0) (
 cond (decide (a<b)) (
 some 1099511627777) (
 (IF N (IntKind.wrap .u64 b) 1099511627776).bind λd=>
 (IG N d.1 d.2 (IntKind.wrap .u64 a)).bind λc=>
 cond (decide (c.2≠0)) (
 Iw N (IntKind.wrap .u64 (c.1+1))) (
 Iw N c.1)))
def Ef (N:Nat) (a:Int):Option Int:=
 some a
def Fu (N:Nat) (a:(List CP)) (c:Int→Option Int):Nat→Int→Int→Option Int
 |0,_,_=>none
 |m+1,d,b=>
 cond (decide (b<(↑a.length:Int))) (
 (ix a b).bind λg=>
 (ix a (BG (b-1))).bind λi=>
 (ix a b).bind λj=>
 (ix a (BG (b-1))).bind λk=>
 (GA N (BG (g.Ay-i.Ay)) (BG (j.Ax-k.Ax))).bind λl=>
 Fu N a c m (max d l) (BG (b+1))) (
 c d)
def HG (N:Nat) (a:Int) (b:Int→Int→Option Int) (c:Int):Option Int:=
 b c (BG (a+1))
def Di (N:Nat) (a:(List (List CP))) (c:Int→Option Int):Nat→Int→Int→Option Int
 |0,_,_=>none
 |i+1,g,b=>
 cond (decide (b<(↑a.length:Int))) (
 (ix a b).bind λd=>
 Fu N d (HG N b (Di N a c i)) N g 1) (
 c g)
def KV (N:Nat) (a:(List (List CP))):Option Int:=
 Di N a (Ef N) N 0 0
def CY (N:Nat) (b:Int) (c:Int→(List Int)→Option Bool) (a:List Int):Option Bool:=
 c (BG (b+1)) a
def Db (N:Nat) (b:List Int) (a:BY) (g:(List Int)→Option Bool) (i:Bool):Option Bool:=
 cond i (
 (ix b a.D).bind λn=>
 (ix b a.D).bind λj=>
 (GA N a.T a.S).bind λk=>
 (ix b a.D).bind λo=>
 (ix b a.D).bind λp=>
 g (upd b a.D (BG (j+k)))) (
 cond (decide (a.L=4)) (
 (ix b a.D).bind λq=>
 (ix b a.D).bind λc=>
 (GA N a.T a.S).bind λd=>
 (ix b a.D).bind λs=>
 (ix b a.D).bind λt=>
 (ix (upd b a.D (BG (c+(BG (2*d))))) a.B).bind λu=>
 (ix (upd b a.D (BG (c+(BG (2*d))))) a.B).bind λl=>
 (GA N a.Ap a.Am).bind λm=>
 (ix (upd b a.D (BG (c+(BG (2*d))))) a.B).bind λv=>
 (ix (upd b a.D (BG (c+(BG (2*d))))) a.B).bind λw=>
 g (upd (upd b a.D (BG (c+(BG (2*d))))) a.B (BG (l+(BG (2*m)))))) (
 g b))
def Fw (N:Nat) (b:Bool→Option Bool) (a:Bool):Option Bool:=
 b a
def CD (N:Nat) (c:AO) (j:(List Int)→Option Bool):Nat→Int→(List Int)→Option Bool
 |0,_,_=>none
 |k+1,i,b=>
 cond (decide (i<(↑c.J.length:Int))) (
 (ix c.J i).bind λa=>
 cond (decide (a.L=0)) (
 (ix b a.D).bind λn=>
 (ix b a.D).bind λd=>
 (KV N ([a.Bd,a.Ao.Ba,a.Ao.Bb]:List (List CP))).bind λg=>
 (ix b a.D).bind λo=>
 (ix b a.D).bind λp=>
 cond (decide (a.B≠(-1))) (
 (ix (upd b a.D (BG (d+g))) a.B).bind λq=>
 (ix (upd b a.D (BG (d+g))) a.B).bind λl=>
 (GA N a.Ap a.Am).bind λm=>
 (ix (upd b a.D (BG (d+g))) a.B).bind λs=>
 (ix (upd b a.D (BG (d+g))) a.B).bind λt=>
 CY N i (CD N c j k) (upd (upd b a.D (BG (d+g))) a.B (BG (l+m)))) (
 CY N i (CD N c j k) (upd b a.D (BG (d+g))))) (
 cond (decide (a.L=1)) (
 Db N b a (CY N i (CD N c j k)) (decide (a.L=1))) (
 cond (decide (a.L=5)) (
 Fw N (Db N b a (CY N i (CD N c j k))) (decide (a.L=5))) (
 Fw N (Db N b a (CY N i (CD N c j k))) (decide (a.L=3)))))) (
 j b)
def ER (N:Nat) (b:List Int) (c:Option Bool):Nat→Int→Option Bool
 |0,_=>none
 |i+1,a=>
 cond (decide (a<(↑b.length:Int))) (
 (ix b a).bind λg=>
 (ix b a).bind λd=>
 cond (decide (1099511627776<d)) (
 some false) (
 ER N b c i (BG (a+1)))) (
 c)
def Fv (N:Nat):Option Bool:=
 some true
def C6 (N:Nat) (a:List Int):Option Bool:=
 ER N a (Fv N) N 0
def Fx (N:Nat) (a:AO) (b:List Int):Option Bool:=
 CD N a (C6 N) N 0 b
def ES (N:Nat) (b:AO) (d:(List Int)→Option Bool):Nat→Int→(List Int)→Option Bool
 |0,_,_=>none
 |j+1,a,c=>
 cond (decide (a<(↑b.E.length:Int))) (
 (ix b.E a).bind λg=>
 (GA N g.T g.S).bind λi=>
 (ix c a).bind λk=>
 (ix c a).bind λl=>
 ES N b d j (BG (a+1)) (upd c a i)) (
 d c)
def I3 (N:Nat) (a:AO):Option Bool:=
 chk (KM (↑a.E.length:Int) (↑a.E.length:Int) 8) <|
 ES N a (Fx N a) N 0 (List.replicate ((↑a.E.length:Int):Int).toNat (0:Int))
def Er (N:Nat) (a:AO) (c:Option Bool):Nat→Int→Option Bool
 |0,_=>none
 |i+1,b=>
 cond (decide (b<(↑a.Z.length:Int))) (
 (ix a.Z b).bind λd=>
 (CO N d.X 0 1073741824).bind λg=>
 cond (!g) (
 some false) (
 Er N a c i (BG (b+1)))) (
 c)
def GP (N:Nat):Option Bool:=
 some true
def GQ (N:Nat) (a:AO):Option Bool:=
 Er N a (GP N) N 0
def Es (N:Nat) (a:AO) (d:Option Bool):Nat→Int→Option Bool
 |0,_=>none
 |t+1,c=>
 cond (decide (c<(↑a.U.length:Int))) (
 (ix a.U c).bind λb=>
 (FB N b.Ab (↑a.E.length:Int)).bind λg=>
 (cond (!g) (some true) ((CH N b.Bl).bind λi=>
 some (!i))).bind λj=>
 (cond j (some true) ((CO N b.Bm 0 24).bind λk=>
 some (!k))).bind λl=>
 (cond l (some true) ((CO N b.Bn 0 1073741824).bind λm=>
 some (!m))).bind λn=>
 (cond n (some true) ((CH N b.Bo).bind λo=>
 some (!o))).bind λp=>
 (cond p (some true) ((CO N b.Bp 0 128).bind λq=>
 some (!q))).bind λs=>
 cond s (
 some false) (
 Es N a d t (BG (c+1)))) (
 d)
def Jg (N:Nat) (a:AO):Option Bool:=
 Es N a (GQ N a) N 0
def F7 (N:Nat):Option Bool:=
 some true
def EY (N:Nat) (a:AO) (d:Option Bool):Nat→Int→Option Bool
 |0,_=>none
 |o+1,c=>
 cond (decide (c<(↑a.W.length:Int))) (
 (ix a.W c).bind λb=>
 (CO N b.L 0 2).bind λg=>
 (cond (!g) (some true) ((CO N b.G 0 1099511627776).bind λi=>
 some (!i))).bind λj=>
 (cond j (some true) ((CO N b.Bq 0 1440).bind λk=>
 some (!k))).bind λl=>
 cond l (
 some false) (
 (ix ([(↑a.E.length:Int),a.H,(↑a.J.length:Int)]:List Int) b.L).bind λm=>
 (FB N b.V m).bind λn=>
 cond (!n) (
 some false) (
 EY N a d o (BG (c+1))))) (
 d)
def I5 (N:Nat) (a:AO):Option Bool:=
 EY N a (F7 N) N 0
def GR (N:Nat):Option Bool:=
 some true
def Et (N:Nat) (a:AO) (d:Option Bool):Nat→Int→Option Bool
 |0,_=>none
 |u+1,c=>
 cond (decide (c<(↑a.Y.length:Int))) (
 (ix a.Y c).bind λb=>
 (FB N b.D (↑a.U.length:Int)).bind λg=>
 (cond (!g) (some true) ((FB N b.B (BG ((↑a.U.length:Int)+(↑a.Z.length:Int)))).bind λi=>
 some (!i))).bind λj=>
 (cond (j||(decide (b.D=b.B))) (some true) ((CO N b.Br 1 24).bind λk=>
 some (!k))).bind λl=>
 (cond l (some true) ((CO N b.Bs 0 1073741824).bind λm=>
 some (!m))).bind λn=>
 (cond n (some true) ((CH N b.Bi).bind λo=>
 some (!o))).bind λp=>
 cond p (
 some false) (
 (cond ((decide (b.Bh=(-1)))&&(decide (b.Bi≠0))) (some true) ((cond (decide (b.Bh≠(-1))) ((FB N b.Bh (↑a.E.length:Int)).bind λq=>
 some (!q)) (some false)).bind λs=>
 some s)).bind λt=>
 cond t (
 some false) (
 Et N a d u (BG (c+1))))) (
 d)
def Jh (N:Nat) (a:AO):Option Bool:=
 Et N a (GR N) N 0
def L6 (N:Nat) (a:AO):Option Bool:=
 (KE N a).bind λv=>
 (cond v ((Ji N a).bind λb=>
 some b) (some false)).bind λc=>
 (cond c ((I4 N a).bind λd=>
 some d) (some false)).bind λg=>
 (cond g ((Jj N a).bind λi=>
 some i) (some false)).bind λj=>
 (cond j ((Ib N a).bind λk=>
 some k) (some false)).bind λl=>
 (cond l ((I3 N a).bind λm=>
 some m) (some false)).bind λn=>
 (cond n ((Jg N a).bind λo=>
 some o) (some false)).bind λp=>
 (cond p ((I5 N a).bind λq=>
 some q) (some false)).bind λs=>
 (cond s ((Jh N a).bind λt=>
 some t) (some false)).bind λu=>
 some u
def Ek (N:Nat):Option Bool:=
 some true
def Dh (N:Nat) (a:(List Int)) (b:(List Int)) (c:Option Bool):Nat→Int→Option Bool
 |0,_=>none
 |j+1,d=>
 cond (decide (d<(↑a.length:Int))) (
 (ix a d).bind λg=>
 (ix b d).bind λi=>
 cond (decide (g≠i)) (
 some false) (
 Dh N a b c j (BG (d+1)))) (
 c)
def C5 (N:Nat) (a:(List Int)) (b:(List Int)):Option Bool:=
 cond (decide ((↑a.length:Int)≠(↑b.length:Int))) (
 some false) (
 Dh N a b (Ek N) N 0)
def EO (N:Nat):Option Bool:=
 some true
def DW (N:Nat) (a:(List (List Int))) (b:(List (List Int))) (c:Option Bool):Nat→Int→Option Bool
 |0,_=>none
 |k+1,d=>
 cond (decide (d<(↑a.length:Int))) (
 (ix a d).bind λg=>
 (ix b d).bind λi=>
 (C5 N g i).bind λj=>
 cond (!j) (
 some false) (
 DW N a b c k (BG (d+1)))) (
 c)
def He (N:Nat) (a:(List (List Int))) (b:(List (List Int))):Option Bool:=
 cond (decide ((↑a.length:Int)≠(↑b.length:Int))) (
 some false) (
 DW N a b (EO N) N 0)
def EN (N:Nat):Option Bool:=
 some true
def DV (N:Nat) (a:(List BM)) (b:(List BM)) (d:Option Bool):Nat→Int→Option Bool
 |0,_=>none
 |q+1,c=>
 cond (decide (c<(↑a.length:Int))) (
 (ix a c).bind λg=>
 (ix b c).bind λi=>
 (cond (decide (g.Aq≠i.Aq)) (some true) ((ix a c).bind λj=>
 (ix b c).bind λk=>
 some (decide (j.B≠k.B)))).bind λl=>
 (cond l (some true) ((ix a c).bind λm=>
 (ix b c).bind λn=>
 (C5 N m.R n.R).bind λo=>
 some (!o))).bind λp=>
 cond p (
 some false) (
 DV N a b d q (BG (c+1)))) (
 d)
def Hc (N:Nat) (a:(List BM)) (b:(List BM)):Option Bool:=
 cond (decide ((↑a.length:Int)≠(↑b.length:Int))) (
 some false) (
 DV N a b (EN N) N 0)
def EM (N:Nat):Option Bool:=
 some true
def DU (N:Nat) (a:(List BE)) (b:(List BE)) (c:Option Bool):Nat→Int→Option Bool
 |0,_=>none
 |j+1,d=>
 cond (decide (d<(↑a.length:Int))) (
 (ix a d).bind λg=>
 (ix b d).bind λi=>
 cond (!(Uz g.v i.v)) (
 some false) (
 DU N a b c j (BG (d+1)))) (
 c)
def Hb (N:Nat) (a:(List BE)) (b:(List BE)):Option Bool:=
 cond (decide ((↑a.length:Int)≠(↑b.length:Int))) (
 some false) (
 DU N a b (EM N) N 0)
def Hr (N:Nat) (a:AJ) (b:AJ):Option Bool:=
 (He N a.F b.F).bind λg=>
 (C5 N a.K b.K).bind λi=>
 (Hc N a.P b.P).bind λj=>
 (C5 N a.O b.O).bind λk=>
 (C5 N a.N b.N).bind λl=>
 (cond ((((((decide (a.A=b.A))&&g)&&i)&&j)&&k)&&l) ((Hb N a.Q b.Q).bind λc=>
 some c) (some false)).bind λd=>
 some d
def Ke (N:Nat) (a:Int) (b:List (List Int)) (c:List Int) (d:List BM) (g:List BE) (i:List Int) (j:List Int):Option AJ:=
 some (⟨a,b,c,d,g,i,j⟩:AJ)
def JF (N:Nat) (c:AO) (b:(List E5)) (g:Int→(List (List Int))→(List Int)→(List BM)→(List BE)→(List Int)→(List Int)→Option AJ):Nat→Int→Int→(List (List Int))→(List Int)→(List BM)→(List BE)→(List Int)→(List Int)→Option AJ
 |0,_,_,_,_,_,_,_,_=>none
 |q+1,d,i,j,k,l,m,n,o=>
 cond (decide (d<(↑b.length:Int))) (
 (ix b d).bind λp=>
 (Lo N c (⟨i,j,k,l,m,n,o⟩:AJ) p).bind λa=>
 JF N c b g q (BG (d+1)) a.1.A a.1.F a.1.K a.1.P a.1.Q a.1.O a.1.N) (
 g i j k l m n o)
def OV (N:Nat) (c:AO) (a:AJ) (b:(List E5)):Option AJ:=
 JF N c b (Ke N) N 0 a.A a.F a.K a.P a.Q a.O a.N
def Kd (N:Nat):Option Bool:=
 some true
def JE (N:Nat) (a:(List Int)) (c:Option Bool):Nat→Int→Option Bool
 |0,_=>none
 |g+1,b=>
 cond (decide (b<(↑a.length:Int))) (
 (ix a b).bind λd=>
 cond ((decide (d<0))||(decide (2305843009213693952<d))) (
 some false) (
 JE N a c g (BG (b+1)))) (
 c)
def Je (N:Nat) (b:AO) (a:(List Int)):Option Bool:=
 cond (decide ((↑a.length:Int)≠(↑b.I.length:Int))) (
 some false) (
 JE N a (Kd N) N 0)
def GJ (N:Nat) (a:AO) (b:AJ) (g:Option Bool):Nat→Int→Option Bool
 |0,_=>none
 |l+1,d=>
 cond (decide (d<(↑b.P.length:Int))) (
 (ix b.P d).bind λc=>
 (G8 N a c.B).bind λi=>
 (cond (!i) (some true) ((Je N a c.R).bind λj=>
 some (!j))).bind λk=>
 cond k (
 some false) (
 GJ N a b g l (BG (d+1)))) (
 g)
def Hp (N:Nat):Option Bool:=
 some true
def Hq (N:Nat) (a:AO) (b:AJ):Option Bool:=
 GJ N a b (Hp N) N 0
def GK (N:Nat) (b:AO) (a:AJ) (d:Option Bool):Nat→Int→Option Bool
 |0,_=>none
 |j+1,c=>
 cond (decide (c<(↑a.F.length:Int))) (
 (ix a.F c).bind λg=>
 (Je N b g).bind λi=>
 cond (!i) (
 some false) (
 GK N b a d j (BG (c+1)))) (
 d)
def JP (N:Nat) (a:AO) (b:AJ):Option Bool:=
 (cond (decide ((↑b.F.length:Int)≠(↑a.E.length:Int))) (some true) ((Je N a b.O).bind λc=>
 some (!c))).bind λd=>
 (cond d (some true) ((Je N a b.N).bind λg=>
 some (!g))).bind λi=>
 cond i (
 some false) (
 GK N a b (Hq N a b) N 0)
def LR (N:Nat) (b:AO) (a:AX):Option Bool:=
 (Je N b a.R).bind λc=>
 (cond c ((cond (decide (a.D=(-1))) (some true) ((G8 N b a.D).bind λd=>
 some d)).bind λg=>
 some g) (some false)).bind λi=>
 (cond i ((cond (decide (a.B=(-1))) (some true) ((G8 N b a.B).bind λj=>
 some j)).bind λk=>
 some k) (some false)).bind λl=>
 some l
def LQ (N:Nat) (p0_w:AH) (a:Int):Option AH:=
 (some (BG (p0_w.hi+(BG ((GG p0_w.lo (IntKind.wrap .u64 a) 0).2))))).bind λb=>
 some (⟨b,((GG p0_w.lo (IntKind.wrap .u64 a) 0).1)⟩:AH)
def En (N:Nat) (b:Int) (a:Int) (c:(List Int)):Nat→Int→((List (AC×AH)))→Option (List (AC×AH))
 |0,_,_=>none
 |l+1,d,g=>
 cond (decide (d<(↑c.length:Int))) (
 (ix c d).bind λi=>
 (LQ N (⟨(BG (((ML (λk:AC=>Value.agg (AC.v k).toArray) g (⟨b,a,d⟩:AC)).getD (⟨0,0⟩:AH)).hi)),(IntKind.wrap .u64 (((ML (λk:AC=>Value.agg (AC.v k).toArray) g (⟨b,a,d⟩:AC)).getD (⟨0,0⟩:AH)).lo))⟩:AH) i).bind λj=>
 En N b a c l (BG (d+1)) (PM (λk:AC=>Value.agg (AC.v k).toArray) g (⟨b,a,d⟩:AC) j)) (
 some g)
def D2 (N:Nat) (d:(List (AC×AH))) (b:Int) (a:Int) (c:(List Int)):Option (List (AC×AH)):=
 En N b a c N 0 d
def DB (N:Nat) (a:AJ) (c:((List (AC×AH)))→Option (List (AC×AH))):Nat→Int→((List (AC×AH)))→Option (List (AC×AH))
 |0,_,_=>none
 |j+1,b,d=>
 cond (decide (b<(↑a.P.length:Int))) (
 (ix a.P b).bind λg=>
 (D2 N d 0 g.B g.R).bind λi=>
 DB N a c j (BG (b+1)) i) (
 c d)
def Dw (N:Nat) (a:AJ) (c:(List (AC×AH))):Option (List (AC×AH)):=
 (D2 N c 1 (-1) a.O).bind λd=>
 (D2 N d 2 (-1) a.N).bind λb=>
 some b
def Dx (N:Nat) (a:AJ) (b:(List (AC×AH))):Option (List (AC×AH)):=
 DB N a (Dw N a) N 0 b
def DC (N:Nat) (a:AJ) (c:((List (AC×AH)))→Option (List (AC×AH))):Nat→Int→((List (AC×AH)))→Option (List (AC×AH))
 |0,_,_=>none
 |j+1,b,d=>
 cond (decide (b<(↑a.F.length:Int))) (
 (ix a.F b).bind λg=>
 (D2 N d 0 b g).bind λi=>
 DC N a c j (BG (b+1)) i) (
 c d)
def Gc (N:Nat) (b:(List (AC×AH))) (a:AJ):Option (List (AC×AH)):=
 DC N a (Dx N a) N 0 b
def LP (N:Nat) (p0_w:AH) (a:Int):Option AH:=
 (some (BG (p0_w.hi-(BG ((KR p0_w.lo (IntKind.wrap .u64 a) 0).2))))).bind λb=>
 some (⟨b,((KR p0_w.lo (IntKind.wrap .u64 a) 0).1)⟩:AH)
def Eo (N:Nat) (b:Int) (a:Int) (c:(List Int)):Nat→Int→((List (AC×AH)))→Option (List (AC×AH))
 |0,_,_=>none
 |l+1,d,g=>
 cond (decide (d<(↑c.length:Int))) (
 (ix c d).bind λi=>
 (LP N (⟨(BG (((ML (λk:AC=>Value.agg (AC.v k).toArray) g (⟨b,a,d⟩:AC)).getD (⟨0,0⟩:AH)).hi)),(IntKind.wrap .u64 (((ML (λk:AC=>Value.agg (AC.v k).toArray) g (⟨b,a,d⟩:AC)).getD (⟨0,0⟩:AH)).lo))⟩:AH) i).bind λj=>
 Eo N b a c l (BG (d+1)) (PM (λk:AC=>Value.agg (AC.v k).toArray) g (⟨b,a,d⟩:AC) j)) (
 some g)
def C4 (N:Nat) (d:(List (AC×AH))) (b:Int) (a:Int) (c:(List Int)):Option (List (AC×AH)):=
 Eo N b a c N 0 d
def C9 (N:Nat) (a:AJ) (c:((List (AC×AH)))→Option (List (AC×AH))):Nat→Int→((List (AC×AH)))→Option (List (AC×AH))
 |0,_,_=>none
 |j+1,b,d=>
 cond (decide (b<(↑a.P.length:Int))) (
 (ix a.P b).bind λg=>
 (C4 N d 0 g.B g.R).bind λi=>
 C9 N a c j (BG (b+1)) i) (
 c d)
def Du (N:Nat) (a:AJ) (c:(List (AC×AH))):Option (List (AC×AH)):=
 (C4 N c 1 (-1) a.O).bind λd=>
 (C4 N d 2 (-1) a.N).bind λb=>
 some b
def Dv (N:Nat) (a:AJ) (b:(List (AC×AH))):Option (List (AC×AH)):=
 C9 N a (Du N a) N 0 b
def DA (N:Nat) (a:AJ) (c:((List (AC×AH)))→Option (List (AC×AH))):Nat→Int→((List (AC×AH)))→Option (List (AC×AH))
 |0,_,_=>none
 |j+1,b,d=>
 cond (decide (b<(↑a.F.length:Int))) (
 (ix a.F b).bind λg=>
 (C4 N d 0 b g).bind λi=>
 DA N a c j (BG (b+1)) i) (
 c d)
def Gb (N:Nat) (b:(List (AC×AH))) (a:AJ):Option (List (AC×AH)):=
 DA N a (Dv N a) N 0 b
def GO (N:Nat) (a:AX) (b:(List (AC×AH))):Option (List (AC×AH)):=
 cond (decide (a.D=(-1))) (
 (C4 N b 1 (-1) a.R).bind λc=>
 some c) (
 (D2 N b 0 a.D a.R).bind λd=>
 some d)
def Jf (N:Nat) (b:(List (AC×AH))) (a:AX):Option (List (AC×AH)):=
 cond (decide (a.B=(-1))) (
 (C4 N b 2 (-1) a.R).bind λc=>
 GO N a c) (
 (C4 N b 0 a.B a.R).bind λd=>
 GO N a d)
def HS (N:Nat) (a:(List AX)) (d:((List (AC×AH)))→Option Bool):Nat→Int→((List (AC×AH)))→Option Bool
 |0,_,_=>none
 |j+1,b,c=>
 cond (decide (b<(↑a.length:Int))) (
 (ix a b).bind λg=>
 (Jf N c g).bind λi=>
 HS N a d j (BG (b+1)) i) (
 d c)
def Il (N:Nat) (a:AC×AH):Option Bool:=
 cond (!(Uz (⟨(BG a.2.hi),(IntKind.wrap .u64 a.2.lo)⟩:AH).v (⟨0,0⟩:AH).v)) (
 some false) (
 none)
def Im (N:Nat):Option Bool:=
 some true
def In (N:Nat) (a:(List (AC×AH))):Option Bool:=
 cond (List.all a (λe=>(Il N e).isNone)) (Im N) (some false)
def Io (N:Nat) (b:AJ) (c:AJ) (a:(List AX)):Option Bool:=
 (Gc N ([]:(List (AC×AH))) c).bind λd=>
 (Gb N d b).bind λg=>
 HS N a (In N) N 0 g
def HT (N:Nat) (b:AO) (a:(List AX)) (d:Option Bool):Nat→Int→Option Bool
 |0,_=>none
 |j+1,c=>
 cond (decide (c<(↑a.length:Int))) (
 (ix a c).bind λg=>
 (LR N b g).bind λi=>
 cond (!i) (
 some false) (
 HT N b a d j (BG (c+1)))) (
 d)
def Kf (N:Nat) (b:AO) (c:AJ) (d:AJ) (a:(List AX)):Option Bool:=
 (JP N b c).bind λg=>
 (cond (!g) (some true) ((JP N b d).bind λi=>
 some (!i))).bind λj=>
 cond j (
 some false) (
 HT N b a (Io N c d a) N 0)
def DG (N:Nat):Option Bool:=
 (I1 N).bind λd=>
 (Me N d 5).bind λc=>
 (Mj N d c PO).bind λa=>
 (G9 N PN 0 2 6).bind λb=>
 (Mh N d ByteArray.empty).bind λj=>
 (Lq N c).bind λk=>
 (Mh N d k).bind λg=>
 (Mi N d a.2.1 1).bind λi=>
 (L6 N d).bind λl=>
 cond (((((((!l)||(decide ((↑a.1.length:Int)≠1)))||(decide ((↑a.2.2.length:Int)≠1)))||(decide ((↑a.2.1.length:Int)≠3)))||j.2)||(!g.2))||(decide ((↑b.length:Int)≠4))) (
 some false) (
 (ix a.1 0).bind λaa=>
 (ix a.1 0).bind λm=>
 (cond (decide ((↑m.F.length:Int)≠3)) (some true) ((ix a.1 0).bind λab=>
 (ix a.1 0).bind λn=>
 (ix n.F 0).bind λo=>
 some (decide ((↑o.length:Int)≠1)))).bind λp=>
 (cond p (some true) ((ix a.1 0).bind λac=>
 (ix a.1 0).bind λq=>
 some (decide ((↑q.N.length:Int)≠1)))).bind λs=>
 cond s (
 some false) (
 (Hr N g.1 c).bind λt=>
 (cond t ((OV N d c []).bind λu=>
 (Hr N u c).bind λv=>
 some v) (some false)).bind λw=>
 (cond w ((ix a.1 0).bind λx=>
 (Kf N d c x a.2.1).bind λy=>
 some y) (some false)).bind λz=>
 (cond z ((ix a.1 0).bind λA=>
 (eQ a.2.1 1).bind λB=>
 (Kf N d c A B).bind λC=>
 some (!C)) (some false)).bind λD=>
 (cond D ((ix a.1 0).bind λG=>
 (ix G.F 0).bind λH=>
 (ix H 0).bind λI=>
 some (decide (I=63))) (some false)).bind λJ=>
 (cond J ((ix a.1 0).bind λK=>
 (ix K.N 0).bind λM=>
 some (decide (M=15))) (some false)).bind λQ=>
 (cond Q ((ix b 1).bind λad=>
 (ix b 1).bind λU=>
 some (decide (U=15))) (some false)).bind λV=>
 (cond V ((ix b 3).bind λae=>
 (ix b 3).bind λW=>
 some (decide (W=7))) (some false)).bind λX=>
 (cond X (some (decide (i.1=7))) (some false)).bind λY=>
 (cond Y (some (decide (i.2=0))) (some false)).bind λZ=>
 some Z))
def D8 (N:Nat) (a:AJ) (c:Option Bool):Nat→Int→Option Bool
 |0,_=>none
 |g+1,b=>
 cond (decide (b<(↑a.P.length:Int))) (
 (ix a.P b).bind λd=>
 cond (decide (20<(↑d.R.length:Int))) (
 some false) (
 D8 N a c g (BG (b+1)))) (
 c)
def DX (N:Nat) (a:(List AX)) (c:Option Bool):Nat→Int→Option Bool
 |0,_=>none
 |g+1,b=>
 cond (decide (b<(↑a.length:Int))) (
 (ix a b).bind λd=>
 cond (decide (20<(↑d.R.length:Int))) (
 some false) (
 DX N a c g (BG (b+1)))) (
 c)
def FW (N:Nat):Option Bool:=
 some true
def FX (N:Nat) (a:(List AX)):Option Bool:=
 DX N a (FW N) N 0
def FY (N:Nat) (b:AJ) (a:(List AX)):Option Bool:=
 D8 N b (FX N a) N 0
def D9 (N:Nat) (a:AJ) (c:Option Bool):Nat→Int→Option Bool
 |0,_=>none
 |g+1,b=>
 cond (decide (b<(↑a.F.length:Int))) (
 (ix a.F b).bind λd=>
 cond (decide (20<(↑d.length:Int))) (
 some false) (
 D9 N a c g (BG (b+1)))) (
 c)
def G0 (N:Nat) (a:AJ) (b:(List AX)):Option Bool:=
 cond (((((((decide (20<(↑a.F.length:Int)))||(decide (60<(↑a.P.length:Int))))||(decide (20<(↑a.Q.length:Int))))||(decide (20<(↑a.K.length:Int))))||(decide (20<(↑a.O.length:Int))))||(decide (20<(↑a.N.length:Int))))||(decide (400<(↑b.length:Int)))) (
 some false) (
 D9 N a (FY N a b) N 0)
def EL (N:Nat) (b:Int) (a:Int):Option (Int×Bool):=
 cond (decide (b≠(IntKind.wrap .u64 (Dn .i64 (BG a) 63)))) (
 some (0,false)) (
 some ((BG a),true))
def EK (N:Nat) (a:(List Int)) (g:Int→Int→Option (Int×Bool)):Nat→Int→Int→Int→Option (Int×Bool)
 |0,_,_,_=>none
 |j+1,i,b,c=>
 cond (decide (c<(↑a.length:Int))) (
 (ix a c).bind λd=>
 EK N a g j ((GG i (IntKind.wrap .u64 (Dn .i64 d 63)) ((GG b (IntKind.wrap .u64 d) 0).2)).1) ((GG b (IntKind.wrap .u64 d) 0).1) (BG (c+1))) (
 g i b)
def Ko (N:Nat) (a:(List Int)):Option (Int×Bool):=
 EK N a (EL N) N 0 0 0
def Ep (N:Nat):Option Bool:=
 some true
def DI (N:Nat) (a:(List Int)) (b:(List Int)) (c:Option Bool):Nat→Int→Option Bool
 |0,_=>none
 |j+1,d=>
 cond (decide (d<(↑a.length:Int))) (
 (ix a d).bind λg=>
 (ix b d).bind λi=>
 cond (decide (g≠i)) (
 some false) (
 DI N a b c j (BG (d+1)))) (
 c)
def E0 (N:Nat) (a:(List Int)) (b:(List Int)):Option Bool:=
 cond (decide ((↑a.length:Int)≠(↑b.length:Int))) (
 some false) (
 DI N a b (Ep N) N 0)
def CW (N:Nat) (b:(List AX)) (i:Int) (a:Int) (d:(List Int)) (j:Option Bool):Nat→Int→Option Bool
 |0,_=>none
 |p+1,c=>
 cond (decide (c<(↑d.length:Int))) (
 (G9 N b i (BG (a+c)) (BG ((BG (a+c))+1))).bind λg=>
 (cond (decide ((↑g.length:Int)≠1)) (some true) ((ix g 0).bind λn=>
 (ix g 0).bind λk=>
 (ix d c).bind λo=>
 (ix d c).bind λl=>
 some (decide (k≠l)))).bind λm=>
 cond m (
 some false) (
 CW N b i a d j p (BG (c+1)))) (
 j)
def Cg (N:Nat) (a:(List AX)) (d:Int) (c:Int) (b:Int) (j:Bool):Option Bool:=
 (cond j ((G9 N a d b c).bind λg=>
 some (decide ((↑g.length:Int)=0))) (some false)).bind λi=>
 some i
def C2 (N:Nat) (a:(List AX)) (d:Int) (b:Int) (c:Int) (j:Bool) (g:(List Int)) (i:Bool):Option Bool:=
 cond i (
 some false) (
 CW N a d b g (Cg N a d b c j) N 0)
def By (N:Nat) (a:(List AX)) (g:Int) (c:Int) (d:Int) (b:Int) (o:Bool) (n:Int):Option Bool:=
 (G9 N a g c b).bind λi=>
 (G9 N a g c d).bind λj=>
 (G9 N a g d b).bind λk=>
 (Ko N i).bind λl=>
 cond (decide ((↑i.length:Int)≠(BG (b-c)))) (
 C2 N a g c b o i true) (
 chk (Hn (([]:List Int).length+j.length) 8) <|
 chk (Hn ((([]:List Int)++j).length+k.length) 8) <|
 (E0 N i ((([]:List Int)++j)++k)).bind λm=>
 C2 N a g c b o i (((!m)||(!l.2))||(decide (l.1≠n))))
def CQ (N:Nat) (j:Bool) (a:AX) (c:Option Bool):Nat→Int→Option Bool
 |0,_=>none
 |k+1,b=>
 cond (decide (b<(↑a.R.length:Int))) (
 (ix a.R b).bind λd=>
 (cond (decide (d<0)) (some true) ((ix a.R b).bind λg=>
 some (decide (1099511627776<g)))).bind λi=>
 cond i (
 some j) (
 CQ N j a c k (BG (b+1)))) (
 c)
def C3 (N:Nat) (d:Int) (b:Int) (a:Int) (g:Int) (c:AX) (i:Int→Option Bool):Option Bool:=
 cond (((decide (c.D=d))&&(decide (b≤c.A)))&&(decide (c.A<a))) (
 (Cc N c.R).bind λj=>
 i (BG (g+j))) (
 i g)
def Ch (N:Nat) (a:Int) (b:Int→Int→Option Bool) (c:Int):Option Bool:=
 b c (BG (a+1))
def Bw (N:Nat) (a:(List AX)) (d:Int) (c:Int) (b:Int) (l:Bool) (i:Int→Option Bool):Nat→Int→Int→Option Bool
 |0,_,_=>none
 |m+1,j,g=>
 cond (decide (g<(↑a.length:Int))) (
 (ix a g).bind λk=>
 CQ N l k (C3 N d c b j k (Ch N g (Bw N a d c b l i m))) N 0) (
 i j)
def EQ (N:Nat) (d:(List AX)) (g:Int) (b:Int) (c:Int) (a:Int):Option Bool:=
 (DG N).bind λi=>
 (G0 N (⟨0,[],[],[],[],[],[]⟩:AJ) d).bind λj=>
 cond ((((((!j)||(decide (b<0)))||(decide (c<b)))||(decide (a<c)))||(decide ((BG (b+200))<a)))||(decide (16777216<a))) (
 some i) (
 Bw N d g b a i (By N d g b c a i) N 0 0)
end Go.Proofs.YtedgiljmffngoaaGreat
