import Derived.Test.YtibidnaedddfdaaGreatTFacts
namespace Go.Proofs.YtibidnaedddfdaaGreat
set_option linter.all false
open Go.RowKit
def J0 (N:Nat) (s:(List AY)) (i:Int) (l:(List AY)):Option ((List AY)):=ZQ 32 s i l
def Cq (N:Nat) (a:(List AB)):Option (List AB):=
 chk (room (([]:List AB).length+a.length) 16) <|
 some (([]:List AB)++a)
def Ci (N:Nat) (a:(List AF)):Option (List AF):=
 chk (room (([]:List AF).length+a.length) 40) <|
 some (([]:List AF)++a)
def HQ (N:Nat) (b:Int) (a:Int):Option Bool:=
 some ((decide (0≤b))&&(decide (b<a)))
def DO (N:Nat) (a:Int):Option AB:=
 some (⟨a,a⟩:AB)
def Ie (N:Nat) (c:Int) (b:Int) (a:Int):Option Int:=
 cond (decide (c<b)) (
 some b) (
 cond (decide (a<c)) (
 some a) (
 some c))
def Li (N:Nat) (a:Cs) (b:Int):Option Cs:=
 some ({ a with S:=b}:Cs)
def Mg (N:Nat) (c:AS) (b:Cs) (a:Int):Option Cs:=
 cond (decide (c.X≠0)) (
 (Ie N a 0 c.X).bind λd=>
 Li N b d) (
 Li N b b.S)
def Da (N:Nat) (b:Int) (a:Int):Option Int:=
 cond ((decide (a<0))&&(decide ((BV (9223372036854775807+a))<b))) (
 some 9223372036854775807) (
 cond ((decide (0<a))&&(decide (b<(BV ((-9223372036854775808)+a))))) (
 some (-9223372036854775808)) (
 some (BV (b-a))))
def Dz (N:Nat) (b:Int) (a:Int):Option Int:=
 cond ((decide (0<a))&&(decide ((BV (9223372036854775807-a))<b))) (
 some 9223372036854775807) (
 cond ((decide (a<0))&&(decide (b<(BV ((-9223372036854775808)-a))))) (
 some (-9223372036854775808)) (
 some (BV (b+a))))
def Mw (N:Nat) (b:AS) (a:Cs):Option Cs:=
 cond a.Bd (
 some a) (
 (Da N a.S a.P).bind λc=>
 (Da N 0 b.Am).bind λd=>
 (Ie N c d b.Am).bind λg=>
 (Dz N a.P g).bind λi=>
 some ({ a with P:=i}:Cs))
def Ik (N:Nat) (b:AS) (c2_:AF) (a:Int):Option Int:=
 (Mw N b (⟨a,c2_.S,false,false⟩:Cs)).bind λc=>
 some c.P
def Km (N:Nat) (b:AS) (a:AF) (c:Bool):Option AF:=
 cond c (
 (Ik N b a a.P.B).bind λd=>
 (Ik N b a a.P.A).bind λg=>
 some ({ a with P:=(⟨d,g⟩:AB)}:AF)) (
 (Da N a.P.B b.Am).bind λi=>
 (Ie N i 0 b.X).bind λj=>
 (Dz N a.P.A b.Am).bind λk=>
 (Ie N k 0 b.X).bind λl=>
 some ({ a with P:=(⟨j,l⟩:AB)}:AF))
def GP (N:Nat) (a:Int) (c:Int→(List AF)→Option (List AF)) (b:List AF):Option (List AF):=
 c (BV (a+1)) b
def CY (N:Nat) (p0_w:B0) (d:Cn) (i:(List AF)→Option (List AF)):Nat→Int→(List AF)→Option (List AF)
 |0,_,_=>none
 |o+1,g,c=>
 cond (decide (g<(↑d.Az.length:Int))) (
 (ix d.Az g).bind λa=>
 (HQ N a.Aa (↑p0_w.b.D.length:Int)).bind λj=>
 cond j (
 (ix c a.Aa).bind λp=>
 (ix p0_w.b.D a.Aa).bind λk=>
 (ix c a.Aa).bind λl=>
 (Mg N k (⟨0,l.S,false,false⟩:Cs) a.S).bind λm=>
 (ix c a.Aa).bind λn=>
 GP N g (CY N p0_w d i o) (upd c a.Aa ({ n with S:=m.S}))) (
 GP N g (CY N p0_w d i o) c)) (
 i c)
def Dy (N:Nat) (p0_w:B0) (c:(List Bool)):Nat→Int→(List AF)→Option (List AF)
 |0,_,_=>none
 |p+1,a,d=>
 cond (decide (a<(↑p0_w.b.D.length:Int))) (
 (ix p0_w.b.D a).bind λg=>
 (ix d a).bind λm=>
 (ix d a).bind λi=>
 (cond (decide (a<(↑c.length:Int))) ((ix c a).bind λj=>
 some j) (some false)).bind λk=>
 (Km N g i k).bind λl=>
 (ix d a).bind λn=>
 (ix d a).bind λo=>
 Dy N p0_w c p (BV (a+1)) (upd d a l)) (
 some d)
def Cz (N:Nat) (p0_w:B0) (a:(List Bool)) (b:List AF):Option (List AF):=
 Dy N p0_w a N 0 b
def C0 (N:Nat) (p0_w:B0) (b:Cn) (a:(List Bool)) (c:List AF):Option (List AF):=
 CY N p0_w b (Cz N p0_w a) N 0 c
def EO (N:Nat) (a:Int) (b:Int→(List AF)→Option (List AF)) (c:List AF):Option (List AF):=
 b (BV (a+1)) c
def CC (N:Nat) (p0_w:B0) (a:Cn) (i:(List AF)→Option (List AF)):Nat→Int→(List AF)→Option (List AF)
 |0,_,_=>none
 |j+1,g,d=>
 cond (decide (g<(↑a.Bb.length:Int))) (
 (ix a.Bb g).bind λc=>
 (HQ N c.Aa (↑p0_w.b.D.length:Int)).bind λk=>
 (cond (!k) (some true) ((ix p0_w.b.D c.Aa).bind λl=>
 some (decide (l.I≠5)))).bind λm=>
 cond m (
 EO N g (CC N p0_w a i j) d) (
 cond (decide (c.I=2)) (
 (DO N 1).bind λn=>
 (ix d c.Aa).bind λs=>
 (ix d c.Aa).bind λo=>
 EO N g (CC N p0_w a i j) (upd d c.Aa ({ o with N:=n}))) (
 cond (decide (c.I=3)) (
 (DO N 0).bind λp=>
 (ix d c.Aa).bind λt=>
 (ix d c.Aa).bind λq=>
 EO N g (CC N p0_w a i j) (upd d c.Aa ({ q with N:=p}))) (
 EO N g (CC N p0_w a i j) d)))) (
 i d)
def Ht (N:Nat) (p0_w:B0) (a:Cn) (b:(List Bool)):Option (List AF):=
 CC N p0_w a (C0 N p0_w a b) N 0 p0_w.h.D
def Ei (N:Nat) (a:AB):Option Bool:=
 some (decide (a.B≤a.A))
def HV (N:Nat) (a:AB) (b:AB):Option AB:=
 (Dz N a.B b.B).bind λc=>
 (Dz N a.A b.A).bind λd=>
 some (⟨c,d⟩:AB)
def Jj (N:Nat) (a:AB):Option AB:=
 some (⟨(min a.B 1125899906842624),(min a.A 1125899906842624)⟩:AB)
def LI (N:Nat) (a:AS) (b:AB):Option (AB×AS):=
 some (b,a)
def GM (N:Nat) (a:AB) (b:Int):Option Bool:=
 some ((decide (a.B≤b))&&(decide (b≤a.A)))
def Jd {σ:Type}(N:Nat) (a:AB) (c2_:AS) (c:Int→σ→Option (Bool×σ)) (s:σ):Option (Bool×σ):=
 (Ei N a).bind λk=>
 cond (!k) (
 some (true,s)) (
 (c a.B s).bind λd=>
 cond d.1 (
 (c a.A d.2).bind λb=>
 cond b.1 (
 (cond (decide (c2_.Ab<9223372036854775807)) ((GM N a (BV (c2_.Ab+1))).bind λi=>
 some i) (some false)).bind λj=>
 cond j (
 (c (BV (c2_.Ab+1)) b.2).bind λg=>
 cond g.1 (
 some (true,g.2)) (
 some (false,g.2))) (
 some (true,b.2))) (
 some (false,b.2))) (
 some (false,d.2)))
def IS (N:Nat) (a:Cs) (b:Bool):Option Cs:=
 some ({ a with N:=b}:Cs)
def KI (N:Nat) (b:AS) (a:Cs) (c:Int):Option Cs:=
 cond (decide (b.I≠3)) (
 some a) (
 cond (decide (b.Ae≤c)) (
 IS N a true) (
 cond (decide (c≤b.Ab)) (
 IS N a false) (
 IS N a a.N)))
def LG (N:Nat) (a:AB) (b:AB):Option AB:=
 some (⟨(min a.B b.B),(max a.A b.A)⟩:AB)
def EK (N:Nat) (a:Int) (g:Int→Int→Int→Bool→Option (Bool×(Int×Int×Bool))) (b:Int) (c:Int) (d:Bool):Option (Bool×(Int×Int×Bool)):=
 g (BV (a+1)) b c d
def HN (N:Nat) (g:Int) (i:Int) (a:Bool) (j:Int→Int→Bool→Option (Bool×(Int×Int×Bool))) (b:Int):Option (Bool×(Int×Int×Bool)):=
 cond a (
 (DO N b).bind λk=>
 (LG N (⟨g,i⟩:AB) k).bind λc=>
 j c.B c.A a) (
 (DO N b).bind λd=>
 j d.B d.A true)
def CZ (N:Nat) (b:AS) (c:AF) (j:Int):Nat→Int→Int→Int→Bool→Option (Bool×(Int×Int×Bool))
 |0,_,_,_,_=>none
 |m+1,a,d,g,i=>
 cond (decide (a<2)) (
 (GM N c.N a).bind λk=>
 cond (!k) (
 EK N a (CZ N b c j m) d g i) (
 (KI N b (⟨0,0,false,(decide (a=1))⟩:Cs) j).bind λl=>
 cond l.N (
 HN N d g i (EK N a (CZ N b c j m)) 1) (
 HN N d g i (EK N a (CZ N b c j m)) 0))) (
 some (true,(d,g,i)))
def Ga (N:Nat) (a:AS) (b:AF) (c:Int) (d:Int) (g:Int) (i:Bool):Option (Bool×(Int×Int×Bool)):=
 CZ N a b c N 0 d g i
def Kt (N:Nat) (a:AF) (b:Int) (c:Int):Option AF:=
 some ({ a with N:=(⟨b,c⟩:AB)}:AF)
def J5 (N:Nat) (b:AS) (a:AF) (d:AB):Option AF:=
 cond (decide (b.I≠3)) (
 some a) (
 (LI N b d).bind λg=>
 (Jd N g.1 g.2 (λj i=>Ga N b a j i.1 i.2.1 i.2.2) (0,0,false)).bind λc=>
 cond c.1 (
 cond c.2.2.2 (
 Kt N a c.2.1 c.2.2.1) (
 Kt N a a.N.B a.N.A)) (
 none))
def GJ (N:Nat) (a:Int) (d:(List AY)→Int→(List AB)→Option ((List AY)×(List AF)×(List AB))) (b:List AY) (c:List AB):Option ((List AY)×(List AF)×(List AB)):=
 d b (BV (a+1)) c
def B8 (N:Nat) (p0_w:B0) (g:(List AY)→(List AB)→Option ((List AY)×(List AF)×(List AB))):Nat→(List AY)→Int→(List AB)→Option ((List AY)×(List AF)×(List AB))
 |0,_,_,_=>none
 |k+1,c,d,b=>
 cond (decide (d<(↑p0_w.h.E.length:Int))) (
 (ix p0_w.h.E d).bind λa=>
 cond (decide (a.K≤p0_w.h.H)) (
 (ix b a.C).bind λl=>
 (ix b a.C).bind λi=>
 (HV N i a.G).bind λj=>
 (ix b a.C).bind λm=>
 (ix b a.C).bind λn=>
 GJ N d (B8 N p0_w g k) c (upd b a.C j)) (
 chk (room (c.length+1) 32) <|
 GJ N d (B8 N p0_w g k) (c++([a]:List AY)) b)) (
 g c b)
def CV (N:Nat) (c:List AB) (d:(List AB)→Option ((List AY)×(List AF)×(List AB))):Nat→Int→(List AB)→Option ((List AY)×(List AF)×(List AB))
 |0,_,_=>none
 |m+1,a,b=>
 cond (decide (a<(↑c.length:Int))) (
 (ix b a).bind λj=>
 (ix b a).bind λg=>
 (Jj N g).bind λi=>
 (ix b a).bind λk=>
 (ix b a).bind λl=>
 CV N c d m (BV (a+1)) (upd b a i)) (
 d b)
def GI (N:Nat) (a:Int) (c:Int→(List AF)→Option ((List AY)×(List AF)×(List AB))) (b:List AF):Option ((List AY)×(List AF)×(List AB)):=
 c (BV (a+1)) b
def CU (N:Nat) (p0_w:B0) (i:List AY) (d:List AB):Nat→Int→(List AF)→Option ((List AY)×(List AF)×(List AB))
 |0,_,_=>none
 |m+1,a,c=>
 cond (decide (a<(↑p0_w.b.D.length:Int))) (
 (ix p0_w.b.D a).bind λg=>
 cond (decide (g.I=3)) (
 (ix c a).bind λn=>
 (ix c a).bind λj=>
 (ix d g.V).bind λo=>
 (ix d g.V).bind λk=>
 (J5 N g j k).bind λl=>
 (ix c a).bind λp=>
 (ix c a).bind λq=>
 GI N a (CU N p0_w i d m) (upd c a l)) (
 GI N a (CU N p0_w i d m) c)) (
 some (i,c,d))
def CW (N:Nat) (p0_w:B0) (a:List AY) (b:List AB):Option ((List AY)×(List AF)×(List AB)):=
 CU N p0_w a b N 0 p0_w.h.D
def B9 (N:Nat) (p0_w:B0) (b:List AY) (a:List AB):Option ((List AY)×(List AF)×(List AB)):=
 CV N a (CW N p0_w b) N 0 a
def BT (N:Nat) (p0_w:B0) (a:List AB):Option ((List AY)×(List AF)×(List AB)):=
 B8 N p0_w (B9 N p0_w) N ([]:List AY) 0 a
def EE (N:Nat) (a:Int) (b:List AB) (c:Int→(List AB)→Option ((List AY)×(List AF)×(List AB))) (d:Int) (g:Int):Option ((List AY)×(List AF)×(List AB)):=
 (ix b a).bind λi=>
 (ix b a).bind λj=>
 c (BV (a+1)) (upd b a (⟨d,g⟩:AB))
def BS (N:Nat) (p0_w:B0) (a:(List AB)) (c:(List AB)→Option ((List AY)×(List AF)×(List AB))):Nat→Int→(List AB)→Option ((List AY)×(List AF)×(List AB))
 |0,_,_=>none
 |p+1,b,i=>
 cond (decide (b<(↑p0_w.h.G.length:Int))) (
 (ix p0_w.h.G b).bind λq=>
 (ix p0_w.h.G b).bind λd=>
 (cond (decide (b<(↑a.length:Int))) ((ix a b).bind λj=>
 (Ei N j).bind λk=>
 some k) (some false)).bind λl=>
 (cond l ((ix a b).bind λm=>
 some (decide (0≤m.B))) (some false)).bind λn=>
 cond n (
 (ix a b).bind λo=>
 (HV N d o).bind λg=>
 EE N b i (BS N p0_w a c p) g.B g.A) (
 EE N b i (BS N p0_w a c p) d.B d.A)) (
 c i)
def Eu (N:Nat) (p0_w:B0) (a:(List AB)):Option ((List AY)×(List AF)×(List AB)):=
 BS N p0_w a (BT N p0_w) N 0 p0_w.peaks
def DJ (N:Nat) (a:Jb) (b:Int):Option AB:=
 some (⟨0,a.Al⟩:AB)
def Is (N:Nat) (a:Int) (b:Int):Option (Int×Int):=
 some ((IntKind.wrap .u64 ((IntKind.wrap .u64 ((IntKind.wrap .u64 ((E6 .u64 a 32)*(E6 .u64 b 32)))+(E6 .u64 (IntKind.wrap .u64 ((IntKind.wrap .u64 ((E6 .u64 a 32)*(Jp .and .u64 b 4294967295)))+(E6 .u64 (IntKind.wrap .u64 ((Jp .and .u64 a 4294967295)*(Jp .and .u64 b 4294967295))) 32))) 32)))+(E6 .u64 (IntKind.wrap .u64 ((Jp .and .u64 (IntKind.wrap .u64 ((IntKind.wrap .u64 ((E6 .u64 a 32)*(Jp .and .u64 b 4294967295)))+(E6 .u64 (IntKind.wrap .u64 ((Jp .and .u64 a 4294967295)*(Jp .and .u64 b 4294967295))) 32))) 4294967295)+(IntKind.wrap .u64 ((Jp .and .u64 a 4294967295)*(E6 .u64 b 32))))) 32))),(IntKind.wrap .u64 (a*b)))
def Hc (N:Nat) (a:Int) (b:Int):Option Int:=
 (YX OC (IntKind.wrap .u8 a)).bind λc=>
 some (BV (b+(BV c)))
def He (N:Nat) (a:Int) (b:Int):Option Int:=
 cond (decide (256≤a)) (
 Hc N (E6 .u64 a 8) (BV (b+8))) (
 Hc N a b)
def Hf (N:Nat) (a:Int) (b:Int):Option Int:=
 cond (decide (65536≤a)) (
 He N (E6 .u64 a 16) (BV (b+16))) (
 He N a b)
def J6 (N:Nat) (a:Int):Option Int:=
 cond (decide (4294967296≤a)) (
 Hf N (E6 .u64 a 32) 32) (
 Hf N a 0)
def GN (N:Nat) (a:Int):Option Int:=
 (J6 N a).bind λb=>
 some (BV (64-b))
def EM (N:Nat) (b:Int) (a:Int) (d:Nat) (j:Nat) (g:Int→Option (Int×Int)):Nat→Int→Int→Option (Int×Int)
 |0,_,_=>none
 |k+1,i,c=>
 cond ((decide (4294967296≤c))||(decide ((IntKind.wrap .u64 ((IntKind.wrap .u64 (4294967296*i))+(Jp .and .u64 (Ea .u64 b j) 4294967295)))<(IntKind.wrap .u64 (c*(Jp .and .u64 (Ea .u64 a d) 4294967295)))))) (
 cond (decide (4294967296≤(IntKind.wrap .u64 (i+(E6 .u64 (Ea .u64 a d) 32))))) (
 g (IntKind.wrap .u64 (c-1))) (
 EM N b a d j g k (IntKind.wrap .u64 (i+(E6 .u64 (Ea .u64 a d) 32))) (IntKind.wrap .u64 (c-1)))) (
 g c)
def GO (N:Nat) (c:Int) (a:Int) (b:Int) (n:Int) (d:Nat) (k:Nat) (l:Nat) (g:Nat) (i:Int) (j:Int):Option (Int×Int):=
 (RY (IntKind.wrap .u64 n)).bind λm=>
 some ((IntKind.wrap .u64 ((IntKind.wrap .u64 (i*4294967296))+j)),(E6 .u64 (IntKind.wrap .u64 ((IntKind.wrap .u64 ((IntKind.wrap .u64 ((IntKind.wrap .u64 ((IntKind.wrap .u64 ((IntKind.wrap .u64 ((Jp .or .u64 (Ea .u64 c k) (E6 .u64 a l))*4294967296))+(E6 .u64 (Ea .u64 a g) 32)))-(IntKind.wrap .u64 (i*(Ea .u64 b d)))))*4294967296))+(Jp .and .u64 (Ea .u64 a g) 4294967295)))-(IntKind.wrap .u64 (j*(Ea .u64 b d))))) m))
def EN (N:Nat) (c:Int) (a:Int) (b:Int) (m:Int) (d:Nat) (i:Nat) (j:Nat) (g:Nat) (k:Int):Option (Int×Int):=
 (Qq .u64 (IntKind.wrap .u64 ((IntKind.wrap .u64 ((IntKind.wrap .u64 ((Jp .or .u64 (Ea .u64 c i) (E6 .u64 a j))*4294967296))+(E6 .u64 (Ea .u64 a g) 32)))-(IntKind.wrap .u64 (k*(Ea .u64 b d))))) (E6 .u64 (Ea .u64 b d) 32)).bind λl=>
 EM N a b d g (GO N c a b m d i j g k) N (IntKind.wrap .u64 ((IntKind.wrap .u64 ((IntKind.wrap .u64 ((IntKind.wrap .u64 ((Jp .or .u64 (Ea .u64 c i) (E6 .u64 a j))*4294967296))+(E6 .u64 (Ea .u64 a g) 32)))-(IntKind.wrap .u64 (k*(Ea .u64 b d)))))-(IntKind.wrap .u64 (l*(E6 .u64 (Ea .u64 b d) 32))))) l
def Dx (N:Nat) (b:Int) (a:Int) (d:Nat) (j:Nat) (g:Int→Option (Int×Int)):Nat→Int→Int→Option (Int×Int)
 |0,_,_=>none
 |k+1,c,i=>
 cond ((decide (4294967296≤c))||(decide ((IntKind.wrap .u64 ((IntKind.wrap .u64 (4294967296*i))+(E6 .u64 (Ea .u64 b j) 32)))<(IntKind.wrap .u64 (c*(Jp .and .u64 (Ea .u64 a d) 4294967295)))))) (
 cond (decide (4294967296≤(IntKind.wrap .u64 (i+(E6 .u64 (Ea .u64 a d) 32))))) (
 g (IntKind.wrap .u64 (c-1))) (
 Dx N b a d j g k (IntKind.wrap .u64 (c-1)) (IntKind.wrap .u64 (i+(E6 .u64 (Ea .u64 a d) 32))))) (
 g c)
def G4 (N:Nat) (c:Int) (b:Int) (a:Int):Option (Int×Int):=
 cond (decide (a=0)) (
 none) (
 cond (decide (a≤c)) (
 none) (
 cond (decide (c=0)) (
 (Qq .u64 b a).bind λm=>
 (UV b a).bind λn=>
 some (m,n)) (
 (GN N a).bind λj=>
 (RY (IntKind.wrap .u64 j)).bind λd=>
 (RY (IntKind.wrap .u64 j)).bind λg=>
 (RY (IntKind.wrap .u64 (64-(IntKind.wrap .u64 j)))).bind λi=>
 (RY (IntKind.wrap .u64 j)).bind λk=>
 (Qq .u64 (Jp .or .u64 (Ea .u64 c g) (E6 .u64 b i)) (E6 .u64 (Ea .u64 a d) 32)).bind λl=>
 Dx N b a d k (EN N c b a j d g i k) N l (IntKind.wrap .u64 ((Jp .or .u64 (Ea .u64 c g) (E6 .u64 b i))-(IntKind.wrap .u64 (l*(E6 .u64 (Ea .u64 a d) 32))))))))
def HC (N:Nat) (c:Int) (b:Int) (a:Int):Option (Int×Int×Bool):=
 cond ((((((decide (c<0))||(decide (1125899906842624<c)))||(decide (b<0)))||(decide (1125899906842624<b)))||(decide (a<1)))||(decide (1125899906842624<a))) (
 some (0,0,false)) (
 (Is N (IntKind.wrap .u64 c) (IntKind.wrap .u64 b)).bind λg=>
 cond (decide ((IntKind.wrap .u64 a)≤g.1)) (
 some (0,0,false)) (
 (G4 N g.1 g.2 (IntKind.wrap .u64 a)).bind λd=>
 cond (decide (1125899906842624<d.1)) (
 some (0,0,false)) (
 some ((BV d.1),(BV d.2),true))))
def Ii (N:Nat) (c:Int) (a:Int) (b:Int):Option Int:=
 (HC N c a b).bind λd=>
 cond (!d.2.2) (
 some 0) (
 some d.1)
def Mv (N:Nat) (b:AS) (a:Int) (c:Int):Option Int:=
 cond (decide (b.C=(-1))) (
 some a) (
 (Ii N c b.Aj b.Ag).bind λd=>
 (Da N a d).bind λg=>
 some (max 0 g))
def Hj (N:Nat):Option Bool:=
 some true
def DK (N:Nat) (a:(List A9)) (d:Option Bool):Nat→Int→Option Bool
 |0,_=>none
 |l+1,c=>
 cond (decide (c<(↑a.length:Int))) (
 (ix a c).bind λb=>
 cond ((((decide (b.M<0))||(decide (1125899906842624<b.M)))||(decide (b.Q<0)))||(decide (1125899906842624<b.Q))) (
 some false) (
 (cond (decide (0<c)) ((ix a (BV (c-1))).bind λg=>
 (cond (decide (b.M≤g.M)) (some true) ((ix a (BV (c-1))).bind λi=>
 some (decide (b.Q<i.Q)))).bind λj=>
 some j) (some false)).bind λk=>
 cond k (
 some false) (
 DK N a d l (BV (c+1))))) (
 d)
def EV (N:Nat) (a:(List A9)):Option Bool:=
 cond ((decide ((↑a.length:Int)<1))||(decide (32<(↑a.length:Int)))) (
 some false) (
 DK N a (Hj N) N 0)
def KX (N:Nat) (a:Int):Option Int:=
 some a
def Hb (N:Nat) (b:(Int→Option Bool)) (d:Int→Option Int):Nat→Int→Int→Option Int
 |0,_,_=>none
 |i+1,a,c=>
 cond (decide (a<c)) (
 (b (BV (E6 .u64 (IntKind.wrap .u64 (BV (a+c))) 1))).bind λg=>
 cond (!g) (
 Hb N b d i (BV ((BV (E6 .u64 (IntKind.wrap .u64 (BV (a+c))) 1))+1)) c) (
 Hb N b d i a (BV (E6 .u64 (IntKind.wrap .u64 (BV (a+c))) 1)))) (
 d a)
def Mm (N:Nat) (a:Int) (b:(Int→Option Bool)):Option Int:=
 Hb N b (KX N) N 0 a
def Gc (N:Nat) (b:(List A9)) (c2_:Int) (a:Int):Option Bool:=
 (ix b a).bind λc=>
 some (decide (c2_<c.M))
def Fb (N:Nat) (a:(List A9)) (d:Int):Option (Int×Bool):=
 (Mm N (↑a.length:Int) (λx=>Gc N a d x)).bind λb=>
 cond (decide (b=0)) (
 (ix a 0).bind λi=>
 some (i.Q,false)) (
 (ix a (BV (b-1))).bind λc=>
 cond (decide (b=(↑a.length:Int))) (
 some (c.Q,false)) (
 (ix a b).bind λj=>
 (ix a b).bind λk=>
 (HC N (BV (d-c.M)) (BV (j.Q-c.Q)) (BV (k.M-c.M))).bind λg=>
 some ((BV (c.Q+g.1)),(decide (0<g.2.1)))))
def Mh (N:Nat) (a:(List A9)) (b:Int):Option Int:=
 (EV N a).bind λc=>
 cond (!c) (
 some 0) (
 (Fb N a b).bind λd=>
 some d.1)
def Ij (N:Nat):Option Int:=
 some 0
def GS (N:Nat) (a:AS) (b:Int):Option Int:=
 (Da N b a.Ax).bind λd=>
 (Ii N (max 0 d) a.W a.R).bind λc=>
 some c
def Kc (N:Nat) (a:Bool) (b:Option Int):Option Int:=
 cond (!a) (
 some 0) (
 b)
def Kb (N:Nat) (c:AS) (a:Bool) (b:Int) (d:Option Int):Option Int:=
 cond a (
 (Ii N b c.W c.R).bind λg=>
 some g) (
 d)
def Ka (N:Nat) (b:AS) (a:Int):Option Int:=
 (Ii N b.W a b.X).bind λc=>
 some c
def LM (N:Nat) (a:AS) (c:Int) (g:(List A9)) (b:Int) (d:Int):Option Int:=
 (Mv N a b d).bind λi=>
 (Mh N g i).bind λj=>
 (Ii N j c a.X).bind λk=>
 (Dz N k a.Aw).bind λl=>
 some l
def Ja (N:Nat) (a:AS) (d:Int) (c:Bool) (i:(List A9)) (b:Int) (g:Int):Option Int:=
 cond (decide (a.I=0)) (
 LM N a d i b g) (
 cond (decide (a.I=2)) (
 Ka N a d) (
 cond (decide (a.I=3)) (
 Kb N a c b (Ij N)) (
 cond (decide (a.I=5)) (
 Kc N c (GS N a b)) (
 cond (decide (a.I=1)) (
 GS N a b) (
 Ij N)))))
def Ep (N:Nat) (b:AS) (c:AF) (a:AB) (d:AB):Option AB:=
 (Ja N b c.P.B (decide (1≤c.N.B)) b.Ac.B a.B d.A).bind λg=>
 (Ja N b c.P.A (decide (1≤c.N.A)) b.Ac.A a.A d.B).bind λi=>
 some (⟨g,i⟩:AB)
def DT (N:Nat) (b:AS) (c2_:AF) (c3_:AB) (a:Int):Option AB:=
 (DO N a).bind λc=>
 (Ep N b c2_ c c3_).bind λd=>
 some d
def LH (N:Nat) (c:Int) (a:Int) (b:Int):Option Int:=
 (HC N c a b).bind λd=>
 cond (!d.2.2) (
 some 0) (
 some d.1)
def LK (N:Nat) (a:AS) (b:Int) (c:Int):Option Int:=
 cond (decide (a.I≠4)) (
 some 0) (
 (LH N b a.W a.R).bind λd=>
 (LH N c a.Aj a.Ag).bind λg=>
 some (BV (d-g)))
def JW (N:Nat) (c:AS) (a:AB) (b:AB):Option AB:=
 (LK N c a.B b.A).bind λd=>
 (LK N c a.A b.B).bind λg=>
 some (⟨d,g⟩:AB)
def HO (N:Nat) (a:AB):Option AB:=
 some (⟨(max 0 a.B),(max 0 a.A)⟩:AB)
def DQ (N:Nat) (b:AS) (c2_:AB) (a:Int):Option AB:=
 (DO N a).bind λg=>
 (JW N b g c2_).bind λc=>
 (HO N c).bind λd=>
 some d
def Nf (N:Nat) (a:AB) (b:AB):Option AB:=
 (Da N a.B b.A).bind λc=>
 (Da N a.A b.B).bind λd=>
 some (⟨c,d⟩:AB)
def DP (N:Nat) (b:AS) (c2_:AB) (a:Int):Option AB:=
 (DO N 0).bind λj=>
 (DO N a).bind λc=>
 (JW N b c2_ c).bind λd=>
 (Nf N j d).bind λg=>
 (HO N g).bind λi=>
 some i
def KY (N:Nat) (a:EW) (b:Int×Int×Bool) (c:Int):Option (Int×Int):=
 cond (decide ((BV (b.2.1+c))<a.R)) (
 some (b.1,(BV (b.2.1+c)))) (
 some ((BV (b.1+1)),(BV ((BV (b.2.1+c))-a.R))))
def JX (N:Nat) (a:EW) (d:Int) (b:Int):Option (Int×Int):=
 (HC N d a.W a.R).bind λc=>
 cond (!c.2.2) (
 some (0,0)) (
 cond ((decide (0≤b))&&(decide (b<a.R))) (
 KY N a c b) (
 KY N a c 0))
def DI (N:Nat) (b:EW) (a:Int):Option AB:=
 (JX N b a 0).bind λd=>
 (JX N b a (BV (b.R-1))).bind λc=>
 some (⟨d.1,c.1⟩:AB)
def Hi (N:Nat) (b:List AL) (a:AS) (c:AF) (i:(List AL)→Option (List AL)) (d:Int) (g:Int):Option (List AL):=
 chk (room (b.length+1) 32) <|
 i (b++([(⟨a.C,a.Y,2,(λx=>DT N a c (⟨d,g⟩:AB) x)⟩:AL)]:List AL))
def DZ (N:Nat) (a:Int) (c:(List AL)→Int→Option (List AL)) (b:List AL):Option (List AL):=
 c b (BV (a+1))
def B1 (N:Nat) (p0_w:B0) (d:Int) (i:(List AL)→Option (List AL)):Nat→(List AL)→Int→Option (List AL)
 |0,_,_=>none
 |l+1,g,c=>
 cond (decide (c<(↑p0_w.b.D.length:Int))) (
 (ix p0_w.b.D c).bind λa=>
 cond ((decide (a.V=d))&&(decide (a.I≠4))) (
 (ix p0_w.h.D c).bind λo=>
 (ix p0_w.h.D c).bind λj=>
 cond (decide (a.C≠(-1))) (
 (ix p0_w.peaks a.C).bind λp=>
 (ix p0_w.peaks a.C).bind λk=>
 Hi N g a j (DZ N c (B1 N p0_w d i l)) k.B k.A) (
 Hi N g a j (DZ N c (B1 N p0_w d i l)) 0 0)) (
 cond (decide (a.V=d)) (
 (ix p0_w.peaks a.C).bind λq=>
 (ix p0_w.peaks a.C).bind λm=>
 chk (room (g.length+1) 32) <|
 DZ N c (B1 N p0_w d i l) (g++([(⟨a.C,a.Y,2,(λx=>DQ N a m x)⟩:AL)]:List AL))) (
 cond ((decide (a.C=d))&&(decide (a.I=4))) (
 (ix p0_w.peaks a.V).bind λs=>
 (ix p0_w.peaks a.V).bind λn=>
 chk (room (g.length+1) 32) <|
 DZ N c (B1 N p0_w d i l) (g++([(⟨a.V,a.Y,2,(λx=>DP N a n x)⟩:AL)]:List AL))) (
 DZ N c (B1 N p0_w d i l) g)))) (
 i g)
def Hh (N:Nat) (a:List AL):Option (List AL):=
 some a
def CD (N:Nat) (p0_w:B0) (d:Int) (c:List AL):Option (List AL):=
 (ix p0_w.b.F d).bind λa=>
 cond (decide (a.R≠0)) (
 chk (room (c.length+1) 32) <|
 Hh N (c++([(⟨a.Ao,a.Y,2,(λx=>DI N a x)⟩:AL)]:List AL))) (
 Hh N c)
def B6 (N:Nat) (p0_w:B0) (a:Int) (b:List AL):Option (List AL):=
 B1 N p0_w a (CD N p0_w a) N b 0
def GQ (N:Nat) (a:Int) (b:(List AL)→Int→Option (List AL)) (c:List AL):Option (List AL):=
 b c (BV (a+1))
def B4 (N:Nat) (p0_w:B0) (c:Int) (a:(List Jb)) (i:(List AL)→Option (List AL)):Nat→(List AL)→Int→Option (List AL)
 |0,_,_=>none
 |k+1,j,g=>
 cond (decide (g<(↑a.length:Int))) (
 (ix a g).bind λd=>
 (cond (decide (d.Ay≠c)) (some true) ((HQ N d.Bh (↑p0_w.b.Z.length:Int)).bind λl=>
 some (!l))).bind λm=>
 cond (m||(decide (d.Al≤0))) (
 GQ N g (B4 N p0_w c a i k) j) (
 (cond (decide (d.C≠(-1))) ((HQ N d.C (↑p0_w.b.F.length:Int)).bind λn=>
 (cond (!n) (some true) ((ix p0_w.b.F d.C).bind λo=>
 (ix p0_w.b.F c).bind λp=>
 some (decide (o.Av≠p.Av)))).bind λq=>
 some q) (some false)).bind λs=>
 cond s (
 GQ N g (B4 N p0_w c a i k) j) (
 chk (room (j.length+1) 32) <|
 GQ N g (B4 N p0_w c a i k) (j++([(⟨d.C,0,0,(λx=>DJ N d x)⟩:AL)]:List AL))))) (
 i j)
def Hv (N:Nat) (p0_w:B0) (b:Int) (a:(List Jb)):Option (List AL):=
 B4 N p0_w b a (B6 N p0_w b) N ([]:List AL) 0
def Fj (N:Nat) (a:AB) (b:Int) (c2_:Int):Option AB:=
 (Da N a.B b).bind λc=>
 (Da N a.A c2_).bind λd=>
 some (⟨(max 0 c),(max 0 (min a.A d))⟩:AB)
def BH (N:Nat) (c:(List AY)) (a:AY) (b:((AY×AY)→Option Int)) (d:Int):Option (Int×Bool):=
 (cond (decide (d<(↑c.length:Int))) ((ix c d).bind λg=>
 (b (g,a)).bind λi=>
 some (decide (i=0))) (some false)).bind λj=>
 some (d,j)
def AV (N:Nat) (d:(List AY)) (a:AY) (b:((AY×AY)→Option Int)) (i:Int→Option (Int×Bool)):Nat→Int→Int→Option (Int×Bool)
 |0,_,_=>none
 |l+1,c,g=>
 cond (decide (c<g)) (
 (ix d (BV (E6 .u64 (IntKind.wrap .u64 (BV (c+g))) 1))).bind λj=>
 (b (j,a)).bind λk=>
 cond (decide (k<0)) (
 AV N d a b i l (BV ((BV (E6 .u64 (IntKind.wrap .u64 (BV (c+g))) 1))+1)) g) (
 AV N d a b i l c (BV (E6 .u64 (IntKind.wrap .u64 (BV (c+g))) 1)))) (
 i c)
def A7 (N:Nat) (c:(List AY)) (a:AY) (b:((AY×AY)→Option Int)):Option (Int×Bool):=
 AV N c a b (BH N c a b) N 0 (↑c.length:Int)
def Kv (N:Nat) (a:Int):Option Bool:=
 some (decide (a≠a))
def It (N:Nat) (a:Int) (b:Int):Option Int:=
 (Kv N a).bind λd=>
 (Kv N b).bind λc=>
 cond d (
 cond c (
 some 0) (
 some (-1))) (
 cond c (
 some 1) (
 cond (decide (a<b)) (
 some (-1)) (
 cond (decide (b<a)) (
 some 1) (
 some 0))))
def Kw (N:Nat):Option Int:=
 some 0
def J3 (N:Nat) (a:(List Int)) (b:Option Int):Nat→Int→Option Int
 |0,_=>none
 |g+1,d=>
 cond (decide (d<(↑a.length:Int))) (
 (ix a d).bind λc=>
 cond (decide (c≠0)) (
 some c) (
 J3 N a b g (BV (d+1)))) (
 b)
def MF (N:Nat) (a:(List Int)):Option Int:=
 J3 N a (Kw N) N 0
def E7 (N:Nat) (a:AY) (b:AY):Option Int:=
 (It N a.K b.K).bind λc=>
 (It N a.C b.C).bind λd=>
 (MF N ([c,d]:List Int)).bind λg=>
 some g
def KJ (N:Nat) (a:(List AY)) (c:Int) (d:Int) (g:AB):Option (List AY):=
 cond (decide (g.A≤0)) (
 some a) (
 (A7 N a (⟨c,d,(⟨0,0⟩:AB)⟩:AY) (λx=>E7 N x.1 x.2)).bind λb=>
 cond b.2 (
 (ix a b.1).bind λo=>
 (ix a b.1).bind λi=>
 (HV N i.G g).bind λj=>
 (Jj N j).bind λk=>
 (ix a b.1).bind λp=>
 (ix a b.1).bind λl=>
 some (upd a b.1 ({ l with G:=k}))) (
 (Jj N g).bind λm=>
 (J0 N a b.1 ([(⟨c,d,m⟩:AY)]:List AY)).bind λn=>
 some n))
def Hg (N:Nat) (p0_w:B0) (b:Int) (a:Int) (c:AB):Option (List AY):=
 cond (decide (b≠(-1))) (
 (KJ N p0_w.h.E (BV ((BV (p0_w.h.H+1))+a)) b c).bind λd=>
 some d) (
 some p0_w.h.E)
def C2 (N:Nat) (p0_w:B0) (b:Int) (g:EW) (m:AB) (i:Int) (j:Int) (k:List AY):Option (AB×(List AB)×(List AY)):=
 (Fj N m j i).bind λa=>
 (Da N a.B g.Ah).bind λc=>
 (Da N a.A g.Ah).bind λd=>
 (Hg N ({ p0_w with h:=({ p0_w.h with E:=k}:AX)}:B0) g.Ao g.Y (⟨(max 0 c),(max 0 d)⟩:AB)).bind λl=>
 (ix p0_w.h.G b).bind λn=>
 (ix p0_w.h.G b).bind λo=>
 some ((⟨(max 0 c),(max 0 d)⟩:AB),(upd p0_w.h.G b (⟨(min a.B g.Ah),(min a.A g.Ah)⟩:AB)),l)
def C1 (N:Nat) (p0_w:B0) (a:(List AL)) (i:AB) (n:Int→Int→(List AY)→Option (AB×(List AB)×(List AY))):Nat→Int→Int→Int→(List AY)→Option (AB×(List AB)×(List AY))
 |0,_,_,_,_=>none
 |u+1,c,d,g,j=>
 cond (decide (c<(↑a.length:Int))) (
 (ix a c).bind λb=>
 (b.asks i.B).bind λk=>
 (b.asks i.A).bind λl=>
 (Fj N i g d).bind λm=>
 (Hg N ({ p0_w with h:=({ p0_w.h with E:=j}:AX)}:B0) b.to_ b.delay (⟨(min k.B m.B),(min l.A m.A)⟩:AB)).bind λo=>
 (Dz N k.A b.slack).bind λp=>
 (Dz N g p).bind λq=>
 (Da N l.B b.slack).bind λs=>
 (Dz N d s).bind λt=>
 C1 N p0_w a i n u (BV (c+1)) t q o) (
 n d g j)
def Hu (N:Nat) (p0_w:B0) (a:Int) (c:(List AL)):Option (AB×(List AB)×(List AY)):=
 (ix p0_w.b.F a).bind λg=>
 (ix p0_w.peaks a).bind λi=>
 (ix p0_w.peaks a).bind λd=>
 C1 N p0_w c d (C2 N p0_w a g d) N 0 0 0 p0_w.h.E
def En (N:Nat) (b:AX) (a:(List AY)×(List AF)×(List AB)) (c:List AB) (d:List AB) (g:List AY):Option (AX×(List AB)×(List AB)):=
 some ((⟨(BV (b.H+1)),d,g,a.2.1⟩:AX),a.2.2,c)
def Em (N:Nat) (c:AH) (g:AX) (i:Cn) (b:(List AY)×(List AF)×(List AB)) (m:(List AB)→(List AB)→(List AY)→Option (AX×(List AB)×(List AB))):Nat→Int→(List AB)→(List AB)→(List AY)→Option (AX×(List AB)×(List AB))
 |0,_,_,_,_=>none
 |q+1,a,d,j,k=>
 cond (decide (a<(↑c.F.length:Int))) (
 (Hv N (⟨c,(⟨g.H,j,k,b.2.1⟩:AX),b.2.2⟩:B0) a i.An).bind λn=>
 (Hu N (⟨c,(⟨g.H,j,k,b.2.1⟩:AX),b.2.2⟩:B0) a n).bind λl=>
 (ix d a).bind λo=>
 (ix d a).bind λp=>
 Em N c g i b m q (BV (a+1)) (upd d a l.1) l.2.1 l.2.2) (
 m d j k)
def Ki (N:Nat) (a:AH) (b:AX) (c:Cn) (d:(List Bool)) (g:(List AB)):Option (AX×(List AB)×(List AB)):=
 (Cq N b.G).bind λj=>
 (Ci N b.D).bind λl=>
 chk (OX (↑a.F.length:Int) (↑a.F.length:Int) 16) <|
 (Ht N (⟨a,(⟨b.H,j,b.E,l⟩:AX),(List.replicate ((↑a.F.length:Int):Int).toNat ((⟨0,0⟩:AB):AB))⟩:B0) c d).bind λk=>
 (Eu N (⟨a,(⟨b.H,j,b.E,k⟩:AX),(List.replicate ((↑a.F.length:Int):Int).toNat ((⟨0,0⟩:AB):AB))⟩:B0) g).bind λi=>
 chk (OX (↑a.F.length:Int) (↑a.F.length:Int) 16) <|
 Em N a b c i (En N b i) N 0 (List.replicate ((↑a.F.length:Int):Int).toNat ((⟨0,0⟩:AB):AB)) j i.1
def Kl (N:Nat) (a:(List Int)):Option (List Int):=
 chk (room (([]:List Int).length+a.length) 8) <|
 some (([]:List Int)++a)
def Lq (N:Nat) (a:AH) (b:Int) (c:List (List Int)):Option BQ:=
 some (⟨b,c,(List.replicate ((↑a.F.length:Int):Int).toNat (0:Int)),[],(List.replicate ((↑a.D.length:Int):Int).toNat ((⟨0,0,false,false⟩:Cs):Cs)),(List.replicate ((↑a.Z.length:Int):Int).toNat (0:Int)),(List.replicate ((↑a.Z.length:Int):Int).toNat (0:Int))⟩:BQ)
def Ks (N:Nat) (c:AH) (d:(List (List Int))→Option BQ):Nat→Int→(List (List Int))→Option BQ
 |0,_,_=>none
 |l+1,a,b=>
 cond (decide (a<(↑c.F.length:Int))) (
 (ix c.F a).bind λg=>
 (Kl N g.Bc).bind λi=>
 (ix b a).bind λj=>
 (ix b a).bind λk=>
 Ks N c d l (BV (a+1)) (upd b a i)) (
 d b)
def O1 (N:Nat) (a:AH) (b:Int):Option BQ:=
 chk (OX (↑a.F.length:Int) (↑a.F.length:Int) 24) <|
 chk (OX (↑a.F.length:Int) (↑a.F.length:Int) 8) <|
 chk (OX (↑a.D.length:Int) (↑a.D.length:Int) 24) <|
 chk (OX (↑a.Z.length:Int) (↑a.Z.length:Int) 8) <|
 chk (OX (↑a.Z.length:Int) (↑a.Z.length:Int) 8) <|
 Ks N a (Lq N a b) N 0 (List.replicate ((↑a.F.length:Int):Int).toNat ([]:(List Int)))
def KH (N:Nat) (b:AB) (a:AB):Option Bool:=
 (LG N b a).bind λc=>
 some (M8 c.v a.v)
def IT (N:Nat) (b:AS) (a:AF):Option Bool:=
 (Ei N a.P).bind λj=>
 (cond (!j) (some true) ((KH N a.P (⟨0,b.X⟩:AB)).bind λk=>
 some (!k))).bind λl=>
 (cond l (some true) ((GM N (⟨0,b.X⟩:AB) a.S).bind λm=>
 some (!m))).bind λn=>
 cond n (
 some false) (
 (DO N 0).bind λc=>
 (DO N 1).bind λd=>
 cond ((decide (b.I≠5))&&(decide (b.I≠3))) (
 some (M8 a.N.v c.v)) (
 (cond ((M8 a.N.v c.v)||(M8 a.N.v d.v)) (some true) ((LG N c d).bind λg=>
 some (M8 a.N.v g.v))).bind λi=>
 some i))
def Ek (N:Nat) (d:AH) (b:AX) (g:Option Bool):Nat→Int→Option Bool
 |0,_=>none
 |q+1,c=>
 cond (decide (c<(↑b.E.length:Int))) (
 (ix b.E c).bind λa=>
 (Ei N a.G).bind λi=>
 (cond (!i) (some true) ((KH N a.G (⟨0,1125899906842624⟩:AB)).bind λj=>
 some (!j))).bind λk=>
 (cond ((k||(decide (a.G.A≤0)))||(decide (a.K<b.H))) (some true) ((HQ N a.C (↑d.F.length:Int)).bind λl=>
 some (!l))).bind λm=>
 cond m (
 some false) (
 (cond (decide (0<c)) ((ix b.E (BV (c-1))).bind λn=>
 (E7 N n a).bind λo=>
 some (decide (0≤o))) (some false)).bind λp=>
 cond p (
 some false) (
 Ek N d b g q (BV (c+1))))) (
 g)
def Ej (N:Nat) (c:AH) (b:AX) (d:Option Bool):Nat→Int→Option Bool
 |0,_=>none
 |k+1,a=>
 cond (decide (a<(↑b.D.length:Int))) (
 (ix b.D a).bind λg=>
 (ix c.D a).bind λi=>
 (IT N i g).bind λj=>
 cond (!j) (
 some false) (
 Ej N c b d k (BV (a+1)))) (
 d)
def HR (N:Nat):Option Bool:=
 some true
def FW (N:Nat) (a:AH) (b:AX):Option Bool:=
 Ej N a b (HR N) N 0
def FX (N:Nat) (a:AH) (b:AX):Option Bool:=
 Ek N a b (FW N a b) N 0
def El (N:Nat) (a:AX) (c:Option Bool):Nat→Int→Option Bool
 |0,_=>none
 |k+1,b=>
 cond (decide (b<(↑a.G.length:Int))) (
 (ix a.G b).bind λd=>
 (Ei N d).bind λg=>
 (cond (!g) (some true) ((KH N d (⟨0,1125899906842624⟩:AB)).bind λi=>
 some (!i))).bind λj=>
 cond j (
 some false) (
 El N a c k (BV (b+1)))) (
 c)
def JO (N:Nat) (b:AH) (a:AX):Option Bool:=
 cond ((((decide (a.H<0))||(decide (16777216<a.H)))||(decide ((↑a.G.length:Int)≠(↑b.F.length:Int))))||(decide ((↑a.D.length:Int)≠(↑b.D.length:Int)))) (
 some false) (
 El N a (FX N b a) N 0)
def Kk (N:Nat) (a:AB):Option Int:=
 (Da N a.A a.B).bind λb=>
 some b
def HB (N:Nat) (a:AX) (c:Int→Option Int):Nat→Int→Int→Option Int
 |0,_,_=>none
 |k+1,d,b=>
 cond (decide (b<(↑a.E.length:Int))) (
 (ix a.E b).bind λi=>
 (Kk N i.G).bind λj=>
 (Dz N d j).bind λg=>
 HB N a c k g (BV (b+1))) (
 c d)
def KZ (N:Nat) (a:Int):Option Int:=
 some a
def Hw (N:Nat) (a:AX) (b:Int):Option Int:=
 HB N a (KZ N) N b 0
def GR (N:Nat) (a:AX) (c:Int→Option Int):Nat→Int→Int→Option Int
 |0,_,_=>none
 |k+1,d,b=>
 cond (decide (b<(↑a.G.length:Int))) (
 (ix a.G b).bind λg=>
 (Kk N g).bind λi=>
 (Dz N d i).bind λj=>
 GR N a c k j (BV (b+1))) (
 c d)
def J7 (N:Nat) (a:AX):Option Int:=
 GR N a (Hw N a) N 0 0
def J2 (N:Nat) (a:Int):Option Int:=
 some a
def Gb (N:Nat) (a:(List Int)) (c:Int→Option Int):Nat→Int→Int→Option Int
 |0,_,_=>none
 |j+1,i,b=>
 cond (decide (b<(↑a.length:Int))) (
 (ix a b).bind λd=>
 (Dz N i d).bind λg=>
 Gb N a c j g (BV (b+1))) (
 c i)
def Gh (N:Nat) (a:(List Int)):Option Int:=
 Gb N a (J2 N) N 0 0
def Mf (N:Nat) (a:Bool):Option Int:=
 cond a (
 some 1) (
 some 0)
def E9 (N:Nat) (b:AX) (d:(List (AQ×Int))) (g:((List (AQ×Bool)))→Option Bool):Nat→Int→((List (AQ×Bool)))→Option Bool
 |0,_,_=>none
 |l+1,c,i=>
 cond (decide (c<(↑b.E.length:Int))) (
 (ix b.E c).bind λa=>
 (GM N a.G (BV ((Lu (λk:AQ=>Value.agg (AQ.v k).toArray) d (⟨a.K,a.C⟩:AQ)).getD 0))).bind λj=>
 cond (!j) (
 some false) (
 E9 N b d g l (BV (c+1)) (M5 (λk:AQ=>Value.agg (AQ.v k).toArray) i (⟨a.K,a.C⟩:AQ) true))) (
 g i)
def E8 (N:Nat) (b:(List (AQ×Bool))) (a:AQ×Int):Option Bool:=
 cond ((!((Lu (λk:AQ=>Value.agg (AQ.v k).toArray) b a.1).getD false))&&(decide ((BV a.2)≠0))) (
 some false) (
 none)
def Jk (N:Nat):Option Bool:=
 some true
def FB (N:Nat) (a:(List (AQ×Int))) (b:(List (AQ×Bool))):Option Bool:=
 cond (List.all a (λe=>(E8 N b e).isNone)) (Jk N) (some false)
def FC (N:Nat) (a:AX) (b:(List (AQ×Int))):Option Bool:=
 E9 N a b (FB N b) N 0 ([]:(List (AQ×Bool)))
def FA (N:Nat) (a:BQ) (g:((List (AQ×Int)))→Option Bool):Nat→Int→((List (AQ×Int)))→Option Bool
 |0,_,_=>none
 |l+1,c,d=>
 cond (decide (c<(↑a.E.length:Int))) (
 (ix a.E c).bind λb=>
 (Gh N b.Ad).bind λi=>
 (Dz N (BV ((Lu (λk:AQ=>Value.agg (AQ.v k).toArray) d (⟨b.K,b.C⟩:AQ)).getD 0)) i).bind λj=>
 FA N a g l (BV (c+1)) (M5 (λk:AQ=>Value.agg (AQ.v k).toArray) d (⟨b.K,b.C⟩:AQ) j)) (
 g d)
def Ku (N:Nat) (a:AX) (b:BQ):Option Bool:=
 FA N b (FC N a) N 0 ([]:(List (AQ×Int)))
def JY (N:Nat) (b:AX) (c:BQ) (i:Option Bool):Nat→Int→Option Bool
 |0,_=>none
 |n+1,a=>
 cond (decide (a<(↑b.D.length:Int))) (
 (ix b.D a).bind λd=>
 (ix c.At a).bind λg=>
 (GM N d.P g.P).bind λj=>
 (cond (!j) (some true) ((Mf N g.N).bind λk=>
 (GM N d.N k).bind λl=>
 some (!l))).bind λm=>
 cond m (
 some false) (
 JY N b c i n (BV (a+1)))) (
 i)
def KK (N:Nat) (a:AX) (b:BQ):Option Bool:=
 (Ku N a b).bind λc=>
 some c
def KL (N:Nat) (a:AX) (b:BQ):Option Bool:=
 JY N a b (KK N a b) N 0
def JZ (N:Nat) (a:AX) (c:BQ) (d:Option Bool):Nat→Int→Option Bool
 |0,_=>none
 |l+1,b=>
 cond (decide (b<(↑a.G.length:Int))) (
 (ix a.G b).bind λk=>
 (ix c.Af b).bind λg=>
 (Gh N g).bind λi=>
 (GM N k i).bind λj=>
 cond (!j) (
 some false) (
 JZ N a c d l (BV (b+1)))) (
 d)
def Lw (N:Nat) (c:AH) (a:AX) (b:BQ):Option Bool:=
 cond (((((decide (a.H≠b.H))||(decide ((↑a.G.length:Int)≠(↑c.F.length:Int))))||(decide ((↑a.D.length:Int)≠(↑c.D.length:Int))))||(decide ((↑b.Af.length:Int)≠(↑a.G.length:Int))))||(decide ((↑b.At.length:Int)≠(↑a.D.length:Int)))) (
 some false) (
 JZ N a b (KL N a b) N 0)
def Hy (N:Nat) (a:BQ) (g:(List AY)→Option AX):Nat→Int→(List AY)→Option AX
 |0,_,_=>none
 |l+1,b,d=>
 cond (decide (b<(↑a.E.length:Int))) (
 (ix a.E b).bind λc=>
 (Gh N c.Ad).bind λi=>
 (DO N i).bind λj=>
 (KJ N d c.K c.C j).bind λk=>
 Hy N a g l (BV (b+1)) k) (
 g d)
def Hx (N:Nat) (b:BQ) (j:(List AF)→Option AX):Nat→Int→(List AF)→Option AX
 |0,_,_=>none
 |l+1,c,d=>
 cond (decide (c<(↑b.At.length:Int))) (
 (ix b.At c).bind λa=>
 (DO N a.P).bind λg=>
 (Mf N a.N).bind λk=>
 (DO N k).bind λi=>
 chk (room (d.length+([(⟨g,a.S,i⟩:AF)]:List AF).length) 40) <|
 Hx N b j l (BV (c+1)) (d++([(⟨g,a.S,i⟩:AF)]:List AF))) (
 j d)
def J8 (N:Nat) (a:BQ) (d:List AB) (b:List AY) (c:List AF):Option AX:=
 some (⟨a.H,d,b,c⟩:AX)
def H0 (N:Nat) (a:BQ) (c:List AB) (b:List AY):Option AX:=
 Hx N a (J8 N a c b) N 0 ([]:List AF)
def Id (N:Nat) (a:BQ) (b:List AB):Option AX:=
 Hy N a (H0 N a b) N 0 ([]:List AY)
def Hz (N:Nat) (a:BQ) (d:(List AB)→Option AX):Nat→Int→(List AB)→Option AX
 |0,_,_=>none
 |k+1,b,c=>
 cond (decide (b<(↑a.Af.length:Int))) (
 (ix a.Af b).bind λi=>
 (Gh N i).bind λj=>
 (DO N j).bind λg=>
 chk (room (c.length+([g]:List AB).length) 16) <|
 Hz N a d k (BV (b+1)) (c++([g]:List AB))) (
 d c)
def LS (N:Nat) (b:AH) (a:BQ):Option AX:=
 Hz N a (Id N a) N 0 ([]:List AB)
def Fm (N:Nat):Option Bool:=
 (Ki N (⟨(ByteArray.mk #[98]),([(ByteArray.mk #[97])]:List ByteArray),0,IC,[],[],[],[],[],([0,0,0]:List Int),0⟩:AH) (⟨0,([(⟨100,150⟩:AB)]:List AB),[],[]⟩:AX) (⟨[],[],[],[],[]⟩:Cn) [] []).bind λa=>
 (O1 N (⟨(ByteArray.mk #[98]),([(ByteArray.mk #[97])]:List ByteArray),0,IC,[],[],[],[],[],([0,0,0]:List Int),0⟩:AH) 0).bind λb=>
 cond (((decide ((↑a.2.1.length:Int)≠1))||(decide ((↑a.2.2.length:Int)≠1)))||(decide ((↑a.1.G.length:Int)≠1))) (
 some false) (
 (ix a.2.1 0).bind λy=>
 (ix a.2.1 0).bind λc=>
 (cond (M8 c.v (⟨100,150⟩:AB).v) ((ix a.2.2 0).bind λz=>
 (ix a.2.2 0).bind λd=>
 some (M8 d.v (⟨0,17⟩:AB).v)) (some false)).bind λg=>
 (cond g ((ix a.1.G 0).bind λi=>
 some (M8 i.v (⟨88,120⟩:AB).v)) (some false)).bind λj=>
 (cond ((j&&(decide (a.1.H=1)))&&(decide ((↑a.1.E.length:Int)=0))) ((JO N (⟨(ByteArray.mk #[98]),([(ByteArray.mk #[97])]:List ByteArray),0,IC,[],[],[],[],[],([0,0,0]:List Int),0⟩:AH) (⟨0,([(⟨100,150⟩:AB)]:List AB),[],[]⟩:AX)).bind λk=>
 some k) (some false)).bind λl=>
 (cond l ((J7 N (⟨0,([(⟨100,150⟩:AB)]:List AB),[],[]⟩:AX)).bind λm=>
 some (decide (m=50))) (some false)).bind λn=>
 (cond n ((Lw N (⟨(ByteArray.mk #[98]),([(ByteArray.mk #[97])]:List ByteArray),0,IC,[],[],[],[],[],([0,0,0]:List Int),0⟩:AH) (⟨0,([(⟨100,150⟩:AB)]:List AB),[],[]⟩:AX) b).bind λo=>
 some o) (some false)).bind λp=>
 (cond p ((LS N (⟨(ByteArray.mk #[98]),([(ByteArray.mk #[97])]:List ByteArray),0,IC,[],[],[],[],[],([0,0,0]:List Int),0⟩:AH) b).bind λq=>
 (J7 N q).bind λs=>
 some (decide (s=0))) (some false)).bind λt=>
 (cond t ((LS N (⟨(ByteArray.mk #[98]),([(ByteArray.mk #[97])]:List ByteArray),0,IC,[],[],[],[],[],([0,0,0]:List Int),0⟩:AH) b).bind λu=>
 (Lw N (⟨(ByteArray.mk #[98]),([(ByteArray.mk #[97])]:List ByteArray),0,IC,[],[],[],[],[],([0,0,0]:List Int),0⟩:AH) u b).bind λw=>
 some w) (some false)).bind λx=>
 some x)
def K7 (N:Nat) (b:AH) (c:AX) (a:Cn):Option Bool:=
 cond ((((decide (6<(↑b.F.length:Int)))||(decide (6<(↑b.D.length:Int))))||(decide (4<(↑b.Z.length:Int))))||(decide (16<(↑c.E.length:Int)))) (
 some false) (
 some (((((decide ((↑a.Ba.length:Int)≤8))&&(decide ((↑a.Bb.length:Int)≤8)))&&(decide ((↑a.Az.length:Int)≤8)))&&(decide ((↑a.An.length:Int)≤8)))&&(decide ((↑a.Bq.length:Int)≤8))))
def DA (N:Nat) (c:Int) (b:Int) (a:Int):Option Bool:=
 some ((decide (b≤c))&&(decide (c≤a)))
def Cr (N:Nat) (a:Int):Option Bool:=
 (DA N a 0 1125899906842624).bind λb=>
 some b
def E0 (N:Nat) (a:AH) (c:Option Bool):Nat→Int→Option Bool
 |0,_=>none
 |i+1,b=>
 cond (decide (b<(↑a.Ar.length:Int))) (
 (ix a.Ar b).bind λd=>
 (Cr N d).bind λg=>
 cond (!g) (
 some false) (
 E0 N a c i (BV (b+1)))) (
 c)
def Hn (N:Nat):Option Bool:=
 some true
def E3 (N:Nat) (a:AH):Option Bool:=
 E0 N a (Hn N) N 0
def E2 (N:Nat) (a:AH) (d:Option Bool):Nat→Int→Option Bool
 |0,_=>none
 |g+1,c=>
 cond (decide (c<(↑a.O.size:Int))) (
 (YX a.O c).bind λb=>
 cond ((((decide (b<32))||(decide (126<b)))||(decide (b=34)))||(decide (b=92))) (
 some false) (
 E2 N a d g (BV (c+1)))) (
 d)
def KE (N:Nat) (a:AH):Option Bool:=
 (cond (decide (500<(↑a.O.size:Int))) (some true) ((DA N (↑a.Z.length:Int) 1 16).bind λb=>
 some (!b))).bind λc=>
 (cond c (some true) ((DA N a.T 0 64).bind λd=>
 some (!d))).bind λg=>
 (cond g (some true) ((DA N (↑a.F.length:Int) 1 64).bind λi=>
 some (!i))).bind λj=>
 (cond ((((((j||(decide (96<(↑a.D.length:Int))))||(decide (40<(↑a.Ak.length:Int))))||(decide (128<(↑a.Ap.length:Int))))||(decide (128<(↑a.Aq.length:Int))))||(decide (40<(↑a.As.length:Int))))||(decide ((↑a.Ar.length:Int)≠3))) (some true) ((DA N a.U 0 1099511627776).bind λk=>
 some (!k))).bind λl=>
 cond l (
 some false) (
 E2 N a (E3 N a) N 0)
def Iw (N:Nat):Option Bool:=
 some true
def G6 (N:Nat) (a:ByteArray) (d:Option Bool):Nat→Int→Option Bool
 |0,_=>none
 |g+1,c=>
 cond (decide (c<(↑a.size:Int))) (
 (YX a c).bind λb=>
 cond ((((decide (b<97))||(decide (122<b)))&&((decide (b<48))||(decide (57<b))))&&(decide (b≠95))) (
 some false) (
 G6 N a d g (BV (c+1)))) (
 d)
def LN (N:Nat) (a:ByteArray):Option Bool:=
 (cond (((decide ((↑a.size:Int)<1))||(decide (24<(↑a.size:Int))))||(a==(ByteArray.mk #[111,117,116]))) (some true) ((YX a 0).bind λb=>
 some (decide (b<97)))).bind λc=>
 (cond c (some true) ((YX a 0).bind λd=>
 some (decide (122<d)))).bind λg=>
 cond g (
 some false) (
 G6 N a (Iw N) N 1)
def Jf (N:Nat) (a:(List (AG×Bool))) (b:ByteArray) (d:ByteArray):Option (Bool×(List (AG×Bool))):=
 (LN N b).bind λc=>
 cond ((!c)||((Lu (λk:AG=>Value.agg (AG.v k).toArray) a (⟨d,b⟩:AG)).getD false)) (
 some (false,a)) (
 some (true,(M5 (λk:AG=>Value.agg (AG.v k).toArray) a (⟨d,b⟩:AG) true)))
def Lj (N:Nat) (a:(List (AG×Bool))) (b:ByteArray) (c:ByteArray):Option (Bool×(List (AG×Bool))):=
 cond (b==(ByteArray.mk #[115,104,101,108,116,101,114])) (
 Jf N a c (ByteArray.mk #[116,111,119,110])) (
 Jf N a c b)
def De (N:Nat) (c2_:(List (AG×Bool))) (c3_:Bool) (a:ByteArray) (b:ByteArray):Option ((List (AG×Bool))×Bool):=
 (Lj N c2_ a b).bind λc=>
 some (c.2,(c.1&&c3_))
def EA (N:Nat) (a:AH) (d:Bool→((List (AG×Bool)))→Option Bool):Nat→Int→Bool→((List (AG×Bool)))→Option Bool
 |0,_,_,_=>none
 |k+1,c,g,i=>
 cond (decide (c<(↑a.F.length:Int))) (
 (ix a.F c).bind λj=>
 (De N i g (ByteArray.mk #[112,108,97,99,101]) j.O).bind λb=>
 EA N a d k (BV (c+1)) b.2 b.1) (
 d g i)
def D9 (N:Nat) (a:AH) (i:Bool→((List (AG×Bool)))→Option Bool):Nat→Int→Bool→((List (AG×Bool)))→Option Bool
 |0,_,_,_=>none
 |k+1,b,c,d=>
 cond (decide (b<(↑a.D.length:Int))) (
 (ix a.D b).bind λj=>
 (De N d c (ByteArray.mk #[108,105,110,107]) j.O).bind λg=>
 D9 N a i k (BV (b+1)) g.2 g.1) (
 i c d)
def D8 (N:Nat) (a:AH) (i:Bool→((List (AG×Bool)))→Option Bool):Nat→Int→Bool→((List (AG×Bool)))→Option Bool
 |0,_,_,_=>none
 |k+1,b,c,d=>
 cond (decide (b<(↑a.Ak.length:Int))) (
 (ix a.Ak b).bind λj=>
 (De N d c (ByteArray.mk #[116,111,119,110]) j.O).bind λg=>
 D8 N a i k (BV (b+1)) g.2 g.1) (
 i c d)
def D7 (N:Nat) (a:AH) (i:Bool→((List (AG×Bool)))→Option Bool):Nat→Int→Bool→((List (AG×Bool)))→Option Bool
 |0,_,_,_=>none
 |k+1,b,c,d=>
 cond (decide (b<(↑a.As.length:Int))) (
 (ix a.As b).bind λj=>
 (De N d c (ByteArray.mk #[115,104,101,108,116,101,114]) j.O).bind λg=>
 D7 N a i k (BV (b+1)) g.2 g.1) (
 i c d)
def Dv (N:Nat) (a:AH) (c:Bool→((List (AG×Bool)))→Option Bool):Nat→Int→Bool→((List (AG×Bool)))→Option Bool
 |0,_,_,_=>none
 |k+1,b,d,g=>
 cond (decide (b<(↑a.Ap.length:Int))) (
 (ix a.Ap b).bind λj=>
 (De N g d (ByteArray.mk #[103,97,117,103,101]) j.O).bind λi=>
 Dv N a c k (BV (b+1)) i.2 i.1) (
 c d g)
def Du (N:Nat) (a:AH) (c:Bool→Option Bool):Nat→Int→Bool→((List (AG×Bool)))→Option Bool
 |0,_,_,_=>none
 |k+1,b,d,i=>
 cond (decide (b<(↑a.Aq.length:Int))) (
 (ix a.Aq b).bind λj=>
 (De N i d (ByteArray.mk #[114,111,97,100]) j.O).bind λg=>
 Du N a c k (BV (b+1)) g.2 g.1) (
 c d)
def FP (N:Nat) (a:Bool):Option Bool:=
 some a
def FQ (N:Nat) (a:AH) (b:Bool) (c:(List (AG×Bool))):Option Bool:=
 Du N a (FP N) N 0 b c
def Fv (N:Nat) (a:AH) (b:Bool) (c:(List (AG×Bool))):Option Bool:=
 Dv N a (FQ N a) N 0 b c
def Fw (N:Nat) (a:AH) (b:Bool) (c:(List (AG×Bool))):Option Bool:=
 D7 N a (Fv N a) N 0 b c
def Fx (N:Nat) (a:AH) (b:Bool) (c:(List (AG×Bool))):Option Bool:=
 D8 N a (Fw N a) N 0 b c
def Fy (N:Nat) (a:AH) (b:Bool) (c:(List (AG×Bool))):Option Bool:=
 D9 N a (Fx N a) N 0 b c
def F1 (N:Nat) (a:AH) (b:Bool) (c:(List (AG×Bool))):Option Bool:=
 EA N a (Fy N a) N 0 b c
def EB (N:Nat) (a:AH) (c:Bool→((List (AG×Bool)))→Option Bool):Nat→Int→Bool→((List (AG×Bool)))→Option Bool
 |0,_,_,_=>none
 |k+1,b,d,g=>
 cond (decide (b<(↑a.Z.length:Int))) (
 (ix a.Z b).bind λj=>
 (De N g d (ByteArray.mk #[111,119,110,101,114]) j).bind λi=>
 EB N a c k (BV (b+1)) i.2 i.1) (
 c d g)
def Kn (N:Nat) (a:AH):Option Bool:=
 EB N a (F1 N a) N 0 true ([]:(List (AG×Bool)))
def IY (N:Nat) (a:Int) (b:Int):Option Bool:=
 (Cr N a).bind λc=>
 (cond c ((Cr N b).bind λd=>
 some d) (some false)).bind λg=>
 some (g&&((decide (b≠0))||(decide (a=0))))
def Gd (N:Nat) (b:Int) (a:Int):Option Bool:=
 (DA N b 0 (BV (a-1))).bind λc=>
 some c
def Kf (N:Nat) (c:AH) (b:Int) (a:Int):Option Bool:=
 (cond (decide (a=(-1))) (some true) ((Gd N a (↑c.F.length:Int)).bind λd=>
 some (d&&(decide (a≠b))))).bind λg=>
 some g
def Cg (N:Nat) (a:Int):Option Bool:=
 some (decide (a≤1125899906842624))
def Dt (N:Nat) (d:EW) (g:Int→Option Bool):Nat→Int→Int→Option Bool
 |0,_,_=>none
 |j+1,b,a=>
 cond (decide (a<(↑d.Bc.length:Int))) (
 (ix d.Bc a).bind λc=>
 (Cr N c).bind λi=>
 cond (!i) (
 some false) (
 Dt N d g j (BV (b+c)) (BV (a+1)))) (
 g b)
def Dr (N:Nat) (c:AH) (g:EW) (d:Int) (i:Int→Option Bool):Nat→Int→Int→Option Bool
 |0,_,_=>none
 |m+1,j,b=>
 cond (decide (b<(↑g.Ba.length:Int))) (
 (ix g.Ba b).bind λa=>
 (cond ((decide (a.Bg≤j))||(decide (c.T≤a.Bg))) (some true) ((Cr N a.Br).bind λk=>
 some (!k))).bind λl=>
 cond l (
 some false) (
 Dr N c g d i m a.Bg (BV (b+1)))) (
 i d)
def FO (N:Nat) (a:AH) (c:EW) (d:Int→Option Bool) (b:Int):Option Bool:=
 Dr N a c b d N (-1) 0
def DH (N:Nat) (a:Int) (b:Int→Int→Option Bool) (c:Int):Option Bool:=
 b c (BV (a+1))
def CI (N:Nat) (b:AH) (d:Int→Option Bool):Nat→Int→Int→Option Bool
 |0,_,_=>none
 |y+1,g,c=>
 cond (decide (c<(↑b.F.length:Int))) (
 (ix b.F c).bind λa=>
 (DA N a.I 0 3).bind λj=>
 (cond (!j) (some true) ((DA N a.Av 0 2).bind λk=>
 some (!k))).bind λl=>
 (cond l (some true) ((DA N a.Y 0 240).bind λm=>
 some (!m))).bind λn=>
 (cond n (some true) ((Cr N a.Ah).bind λo=>
 some (!o))).bind λp=>
 (cond p (some true) ((Cr N a.Be).bind λq=>
 some (!q))).bind λs=>
 (cond s (some true) ((EV N a.Bk).bind λt=>
 some (!t))).bind λu=>
 (cond (u||(decide ((↑a.Bc.length:Int)≠(↑b.Z.length:Int)))) (some true) ((IY N a.W a.R).bind λv=>
 some (!v))).bind λw=>
 (cond w (some true) ((Kf N b c a.Ao).bind λi=>
 some (!i))).bind λx=>
 cond x (
 some false) (
 Dt N a (FO N b a (DH N c (CI N b d y))) N g 0)) (
 d g)
def KQ (N:Nat) (a:AH):Option Bool:=
 CI N a (Cg N) N 0 0
def EL (N:Nat) (b:(List A9)) (a:(List A9)) (i:Option Bool):Nat→Int→Option Bool
 |0,_=>none
 |j+1,c=>
 cond (decide (c<(↑a.length:Int))) (
 (ix a c).bind λd=>
 (Fb N b d.M).bind λg=>
 cond ((decide (d.Q<g.1))||((decide (g.1=d.Q))&&g.2)) (
 some false) (
 EL N b a i j (BV (c+1)))) (
 i)
def Gi (N:Nat):Option Bool:=
 some true
def Dg (N:Nat) (a:(List A9)) (b:(List A9)):Option Bool:=
 EL N a b (Gi N) N 0
def D3 (N:Nat) (a:(List A9)) (b:(List A9)) (d:Option Bool):Nat→Int→Option Bool
 |0,_=>none
 |j+1,c=>
 cond (decide (c<(↑a.length:Int))) (
 (ix a c).bind λg=>
 (Fb N b g.M).bind λi=>
 cond (decide (i.1<g.Q)) (
 some false) (
 D3 N a b d j (BV (c+1)))) (
 d)
def Fd (N:Nat) (a:(List A9)) (b:(List A9)):Option Bool:=
 (EV N a).bind λc=>
 (cond (!c) (some true) ((EV N b).bind λd=>
 some (!d))).bind λg=>
 cond g (
 some false) (
 D3 N a b (Dg N a b) N 0)
def ES (N:Nat) (a:AS) (b:Bool):Option Bool:=
 cond b (
 (Cr N a.Ax).bind λc=>
 (cond c ((Cr N a.W).bind λd=>
 some d) (some false)).bind λg=>
 (cond g ((DA N a.R 1 1125899906842624).bind λi=>
 some i) (some false)).bind λj=>
 some j) (
 cond (decide (a.I=2)) (
 (Cr N a.W).bind λk=>
 (cond k ((DA N a.X 1 64).bind λl=>
 some l) (some false)).bind λm=>
 (cond m ((DA N a.Am 0 a.X).bind λn=>
 some n) (some false)).bind λo=>
 some o) (
 cond (decide (a.I=3)) (
 (Cr N a.W).bind λp=>
 (cond p ((DA N a.R 1 1125899906842624).bind λq=>
 some q) (some false)).bind λs=>
 (cond s ((Cr N a.Ae).bind λt=>
 some t) (some false)).bind λu=>
 (cond u ((Cr N a.Ab).bind λv=>
 some v) (some false)).bind λw=>
 some (w&&(decide (a.Ab<a.Ae)))) (
 (Cr N a.W).bind λx=>
 (cond x ((DA N a.R 1 1125899906842624).bind λy=>
 some y) (some false)).bind λz=>
 (cond z ((IY N a.Aj a.Ag).bind λA=>
 some A) (some false)).bind λB=>
 some (B&&(decide (a.C≠(-1)))))))
def Gz (N:Nat) (a:AS):Option Bool:=
 cond (decide (a.I=0)) (
 (EV N a.Au).bind λb=>
 (cond b ((EV N a.Ac.B).bind λc=>
 some c) (some false)).bind λd=>
 (cond d ((EV N a.Ac.A).bind λg=>
 some g) (some false)).bind λi=>
 (cond i ((Fd N a.Ac.B a.Au).bind λj=>
 some j) (some false)).bind λk=>
 (cond k ((Fd N a.Au a.Ac.A).bind λl=>
 some l) (some false)).bind λm=>
 (cond m ((DA N a.X 0 64).bind λn=>
 some n) (some false)).bind λo=>
 (cond o ((DA N a.Am 0 a.X).bind λp=>
 some p) (some false)).bind λq=>
 (cond q ((Cr N a.Aw).bind λs=>
 some s) (some false)).bind λt=>
 (cond t ((IY N a.Aj a.Ag).bind λu=>
 some u) (some false)).bind λv=>
 some (v&&((decide (a.C≠(-1)))||(decide (a.Ag=0))))) (
 cond (decide (a.I=1)) (
 ES N a (decide (a.I=1))) (
 ES N a (decide (a.I=5))))
def Gy (N:Nat) (a:AS):Option Bool:=
 cond ((!(decide (a.I=0)))&&((((decide (0<(↑a.Au.length:Int)))||(decide (0<(↑a.Ac.B.length:Int))))||(decide (0<(↑a.Ac.A.length:Int))))||(decide (a.Aw≠0)))) (
 some false) (
 cond (((!(decide (a.I=0)))&&(decide (a.I≠2)))&&((decide (a.X≠0))||(decide (a.Am≠0)))) (
 some false) (
 cond (((decide (a.I≠1))&&(decide (a.I≠5)))&&(decide (a.Ax≠0))) (
 some false) (
 cond (((decide (a.I=0))&&(decide (a.W≠0)))||(((decide (a.I=0))||(decide (a.I=2)))&&(decide (a.R≠0)))) (
 some false) (
 cond ((decide (a.I≠3))&&((decide (a.Ae≠0))||(decide (a.Ab≠0)))) (
 some false) (
 some (((decide (a.I=0))||(decide (a.I=4)))||((decide (a.Aj=0))&&(decide (a.Ag=0)))))))))
def EC (N:Nat):Option Bool:=
 some true
def DB (N:Nat) (a:AH) (d:Option Bool):Nat→Int→Option Bool
 |0,_=>none
 |t+1,c=>
 cond (decide (c<(↑a.D.length:Int))) (
 (ix a.D c).bind λb=>
 (DA N b.I 0 5).bind λg=>
 (cond (!g) (some true) ((Gd N b.V (↑a.F.length:Int)).bind λi=>
 some (!i))).bind λj=>
 (cond j (some true) ((Kf N a b.V b.C).bind λk=>
 some (!k))).bind λl=>
 (cond l (some true) ((DA N b.Y 0 240).bind λm=>
 some (!m))).bind λn=>
 (cond n (some true) ((Gz N b).bind λo=>
 some (!o))).bind λp=>
 (cond p (some true) ((Gy N b).bind λq=>
 some (!q))).bind λs=>
 cond s (
 some false) (
 DB N a d t (BV (c+1)))) (
 d)
def GY (N:Nat) (a:AH):Option Bool:=
 DB N a (EC N) N 0
def LT (N:Nat) (c:AH) (a:Int) (b:Int):Option Bool:=
 cond (decide (b=(-1))) (
 some (decide (a=2))) (
 (ix c.F b).bind λd=>
 some ((decide (d.Av=a))||(decide (d.Av=(BV (a+1))))))
def EF (N:Nat) (a:AH) (g:Option Bool):Nat→Int→Option Bool
 |0,_=>none
 |m+1,d=>
 cond (decide (d<(↑a.D.length:Int))) (
 (ix a.D d).bind λb=>
 (ix a.F b.V).bind λc=>
 (LT N a c.Av b.C).bind λi=>
 (cond (!i) (some true) ((cond (decide (b.I=4)) ((ix a.F b.C).bind λj=>
 some (decide (j.Av≠c.Av))) (some false)).bind λk=>
 some k)).bind λl=>
 cond l (
 some false) (
 EF N a g m (BV (d+1)))) (
 g)
def GL (N:Nat):Option Bool:=
 some true
def EH (N:Nat) (a:AH):Option Bool:=
 EF N a (GL N) N 0
def EG (N:Nat) (a:AH) (c:Option Bool):Nat→Int→Option Bool
 |0,_=>none
 |i+1,b=>
 cond (decide (b<(↑a.F.length:Int))) (
 (ix a.F b).bind λd=>
 (LT N a d.Av d.Ao).bind λg=>
 cond (!g) (
 some false) (
 EG N a c i (BV (b+1)))) (
 c)
def In (N:Nat) (a:AH):Option Bool:=
 EG N a (EH N a) N 0
def Je (N:Nat) (a:Int):Option Int:=
 some (BV a)
def Er (N:Nat) (b:Int) (a:Int):Option Int:=
 cond (decide (a=0)) (
 some 0) (
 cond (decide (a<b)) (
 some 1099511627777) (
 (Is N (IntKind.wrap .u64 b) 1099511627776).bind λd=>
 (G4 N d.1 d.2 (IntKind.wrap .u64 a)).bind λc=>
 cond (decide (c.2≠0)) (
 Je N (IntKind.wrap .u64 (c.1+1))) (
 Je N c.1)))
def Cm (N:Nat) (a:Int):Option Int:=
 some a
def Ck (N:Nat) (a:(List A9)) (c:Int→Option Int):Nat→Int→Int→Option Int
 |0,_,_=>none
 |m+1,d,b=>
 cond (decide (b<(↑a.length:Int))) (
 (ix a b).bind λg=>
 (ix a (BV (b-1))).bind λi=>
 (ix a b).bind λj=>
 (ix a (BV (b-1))).bind λk=>
 (Er N (BV (g.Q-i.Q)) (BV (j.M-k.M))).bind λl=>
 Ck N a c m (max d l) (BV (b+1))) (
 c d)
def DL (N:Nat) (a:Int) (b:Int→Int→Option Int) (c:Int):Option Int:=
 b c (BV (a+1))
def CL (N:Nat) (a:(List (List A9))) (c:Int→Option Int):Nat→Int→Int→Option Int
 |0,_,_=>none
 |i+1,g,b=>
 cond (decide (b<(↑a.length:Int))) (
 (ix a b).bind λd=>
 Ck N d (DL N b (CL N a c i)) N g 1) (
 c g)
def Gl (N:Nat) (a:(List (List A9))):Option Int:=
 CL N a (Cm N) N 0 0
def CG (N:Nat) (b:Int) (c:Int→(List Int)→Option Bool) (a:List Int):Option Bool:=
 c (BV (b+1)) a
def DW (N:Nat) (b:List Int) (a:AS) (g:(List Int)→Option Bool) (i:Bool):Option Bool:=
 cond i (
 (ix b a.V).bind λn=>
 (ix b a.V).bind λj=>
 (Er N a.W a.R).bind λk=>
 (ix b a.V).bind λo=>
 (ix b a.V).bind λp=>
 g (upd b a.V (BV (j+k)))) (
 cond (decide (a.I=4)) (
 (ix b a.V).bind λq=>
 (ix b a.V).bind λc=>
 (Er N a.W a.R).bind λd=>
 (ix b a.V).bind λs=>
 (ix b a.V).bind λt=>
 (ix (upd b a.V (BV (c+(BV (2*d))))) a.C).bind λu=>
 (ix (upd b a.V (BV (c+(BV (2*d))))) a.C).bind λl=>
 (Er N a.Aj a.Ag).bind λm=>
 (ix (upd b a.V (BV (c+(BV (2*d))))) a.C).bind λv=>
 (ix (upd b a.V (BV (c+(BV (2*d))))) a.C).bind λw=>
 g (upd (upd b a.V (BV (c+(BV (2*d))))) a.C (BV (l+(BV (2*m)))))) (
 g b))
def JR (N:Nat) (b:Bool→Option Bool) (a:Bool):Option Bool:=
 b a
def BW (N:Nat) (c:AH) (j:(List Int)→Option Bool):Nat→Int→(List Int)→Option Bool
 |0,_,_=>none
 |k+1,i,b=>
 cond (decide (i<(↑c.D.length:Int))) (
 (ix c.D i).bind λa=>
 cond (decide (a.I=0)) (
 (ix b a.V).bind λn=>
 (ix b a.V).bind λd=>
 (Gl N ([a.Au,a.Ac.B,a.Ac.A]:List (List A9))).bind λg=>
 (ix b a.V).bind λo=>
 (ix b a.V).bind λp=>
 cond (decide (a.C≠(-1))) (
 (ix (upd b a.V (BV (d+g))) a.C).bind λq=>
 (ix (upd b a.V (BV (d+g))) a.C).bind λl=>
 (Er N a.Aj a.Ag).bind λm=>
 (ix (upd b a.V (BV (d+g))) a.C).bind λs=>
 (ix (upd b a.V (BV (d+g))) a.C).bind λt=>
 CG N i (BW N c j k) (upd (upd b a.V (BV (d+g))) a.C (BV (l+m)))) (
 CG N i (BW N c j k) (upd b a.V (BV (d+g))))) (
 cond (decide (a.I=1)) (
 DW N b a (CG N i (BW N c j k)) (decide (a.I=1))) (
 cond (decide (a.I=5)) (
 JR N (DW N b a (CG N i (BW N c j k))) (decide (a.I=5))) (
 JR N (DW N b a (CG N i (BW N c j k))) (decide (a.I=3)))))) (
 j b)
def Ct (N:Nat) (b:List Int) (c:Option Bool):Nat→Int→Option Bool
 |0,_=>none
 |i+1,a=>
 cond (decide (a<(↑b.length:Int))) (
 (ix b a).bind λg=>
 (ix b a).bind λd=>
 cond (decide (1099511627776<d)) (
 some false) (
 Ct N b c i (BV (a+1)))) (
 c)
def Dq (N:Nat):Option Bool:=
 some true
def CH (N:Nat) (a:List Int):Option Bool:=
 Ct N a (Dq N) N 0
def Cf (N:Nat) (a:AH) (b:List Int):Option Bool:=
 BW N a (CH N) N 0 b
def Cu (N:Nat) (b:AH) (d:(List Int)→Option Bool):Nat→Int→(List Int)→Option Bool
 |0,_,_=>none
 |j+1,a,c=>
 cond (decide (a<(↑b.F.length:Int))) (
 (ix b.F a).bind λg=>
 (Er N g.W g.R).bind λi=>
 (ix c a).bind λk=>
 (ix c a).bind λl=>
 Cu N b d j (BV (a+1)) (upd c a i)) (
 d c)
def Fo (N:Nat) (a:AH):Option Bool:=
 chk (OX (↑a.F.length:Int) (↑a.F.length:Int) 8) <|
 Cu N a (Cf N a) N 0 (List.replicate ((↑a.F.length:Int):Int).toNat (0:Int))
def Ee (N:Nat) (a:AH) (c:Option Bool):Nat→Int→Option Bool
 |0,_=>none
 |i+1,b=>
 cond (decide (b<(↑a.As.length:Int))) (
 (ix a.As b).bind λd=>
 (DA N d.Ar 0 1073741824).bind λg=>
 cond (!g) (
 some false) (
 Ee N a c i (BV (b+1)))) (
 c)
def G8 (N:Nat):Option Bool:=
 some true
def Eg (N:Nat) (a:AH):Option Bool:=
 Ee N a (G8 N) N 0
def Ef (N:Nat) (a:AH) (d:Option Bool):Nat→Int→Option Bool
 |0,_=>none
 |t+1,c=>
 cond (decide (c<(↑a.Ak.length:Int))) (
 (ix a.Ak c).bind λb=>
 (Gd N b.Ay (↑a.F.length:Int)).bind λg=>
 (cond (!g) (some true) ((Cr N b.Bs).bind λi=>
 some (!i))).bind λj=>
 (cond j (some true) ((DA N b.Bp 0 24).bind λk=>
 some (!k))).bind λl=>
 (cond l (some true) ((DA N b.Bw 0 1073741824).bind λm=>
 some (!m))).bind λn=>
 (cond n (some true) ((Cr N b.Bt).bind λo=>
 some (!o))).bind λp=>
 (cond p (some true) ((DA N b.Bi 0 128).bind λq=>
 some (!q))).bind λs=>
 cond s (
 some false) (
 Ef N a d t (BV (c+1)))) (
 d)
def Jn (N:Nat) (a:AH):Option Bool:=
 Ef N a (Eg N a) N 0
def Gm (N:Nat):Option Bool:=
 some true
def EQ (N:Nat) (a:AH) (d:Option Bool):Nat→Int→Option Bool
 |0,_=>none
 |o+1,c=>
 cond (decide (c<(↑a.Ap.length:Int))) (
 (ix a.Ap c).bind λb=>
 (DA N b.I 0 2).bind λg=>
 (cond (!g) (some true) ((DA N b.U 0 1099511627776).bind λi=>
 some (!i))).bind λj=>
 (cond j (some true) ((DA N b.Bu 0 1440).bind λk=>
 some (!k))).bind λl=>
 cond l (
 some false) (
 (ix ([(↑a.F.length:Int),a.T,(↑a.D.length:Int)]:List Int) b.I).bind λm=>
 (Gd N b.S m).bind λn=>
 cond (!n) (
 some false) (
 EQ N a d o (BV (c+1))))) (
 d)
def JK (N:Nat) (a:AH):Option Bool:=
 EQ N a (Gm N) N 0
def G9 (N:Nat):Option Bool:=
 some true
def Eh (N:Nat) (a:AH) (d:Option Bool):Nat→Int→Option Bool
 |0,_=>none
 |u+1,c=>
 cond (decide (c<(↑a.Aq.length:Int))) (
 (ix a.Aq c).bind λb=>
 (Gd N b.V (↑a.Ak.length:Int)).bind λg=>
 (cond (!g) (some true) ((Gd N b.C (BV ((↑a.Ak.length:Int)+(↑a.As.length:Int)))).bind λi=>
 some (!i))).bind λj=>
 (cond (j||(decide (b.V=b.C))) (some true) ((DA N b.Bx 1 24).bind λk=>
 some (!k))).bind λl=>
 (cond l (some true) ((DA N b.By 0 1073741824).bind λm=>
 some (!m))).bind λn=>
 (cond n (some true) ((Cr N b.Bm).bind λo=>
 some (!o))).bind λp=>
 cond p (
 some false) (
 (cond ((decide (b.Bl=(-1)))&&(decide (b.Bm≠0))) (some true) ((cond (decide (b.Bl≠(-1))) ((Gd N b.Bl (↑a.F.length:Int)).bind λq=>
 some (!q)) (some false)).bind λs=>
 some s)).bind λt=>
 cond t (
 some false) (
 Eh N a d u (BV (c+1))))) (
 d)
def Jo (N:Nat) (a:AH):Option Bool:=
 Eh N a (G9 N) N 0
def KM (N:Nat) (a:AH):Option Bool:=
 (KE N a).bind λv=>
 (cond v ((Kn N a).bind λb=>
 some b) (some false)).bind λc=>
 (cond c ((KQ N a).bind λd=>
 some d) (some false)).bind λg=>
 (cond g ((GY N a).bind λi=>
 some i) (some false)).bind λj=>
 (cond j ((In N a).bind λk=>
 some k) (some false)).bind λl=>
 (cond l ((Fo N a).bind λm=>
 some m) (some false)).bind λn=>
 (cond n ((Jn N a).bind λo=>
 some o) (some false)).bind λp=>
 (cond p ((JK N a).bind λq=>
 some q) (some false)).bind λs=>
 (cond s ((Jo N a).bind λt=>
 some t) (some false)).bind λu=>
 some u
def D4 (N:Nat) (a:AB) (b:Int):Option Bool:=
 some (((decide (0≤a.B))&&(decide (a.B≤a.A)))&&(decide (a.A≤b)))
def Fe (N:Nat) (a:Int) (b:Int):Option Bool:=
 some ((decide (0≤a))&&(decide (a<b)))
def FE (N:Nat) (d:AH) (a:AX) (g:Option Bool):Nat→Int→Option Bool
 |0,_=>none
 |s+1,c=>
 cond (decide (c<(↑a.E.length:Int))) (
 (ix a.E c).bind λb=>
 (D4 N b.G 1125899906842624).bind λi=>
 (cond (((!i)||(decide (b.G.A=0)))||(decide (b.K<a.H))) (some true) ((Fe N b.C (↑d.F.length:Int)).bind λj=>
 some (!j))).bind λk=>
 cond k (
 some false) (
 (cond (decide (0<c)) ((ix a.E (BV (c-1))).bind λl=>
 (cond (decide (b.K<l.K)) (some true) ((ix a.E (BV (c-1))).bind λm=>
 (cond (decide (m.K=b.K)) ((ix a.E (BV (c-1))).bind λn=>
 some (decide (b.C≤n.C))) (some false)).bind λo=>
 some o)).bind λp=>
 some p) (some false)).bind λq=>
 cond q (
 some false) (
 FE N d a g s (BV (c+1))))) (
 g)
def H3 (N:Nat) (c:AH) (b:Int) (a:AF) (n:Int→Option Bool) (d:Int):Option Bool:=
 (ix c.D b).bind λg=>
 (D4 N a.P g.X).bind λi=>
 (cond (!i) (some true) ((D4 N a.N d).bind λj=>
 some (!j))).bind λk=>
 (cond (k||(decide (a.S<0))) (some true) ((ix c.D b).bind λl=>
 some (decide (l.X<a.S)))).bind λm=>
 cond m (
 some false) (
 n (BV (b+1)))
def Dp (N:Nat) (a:AH) (c:AX) (g:Option Bool):Nat→Int→Option Bool
 |0,_=>none
 |l+1,b=>
 cond (decide (b<(↑c.D.length:Int))) (
 (ix c.D b).bind λd=>
 (ix a.D b).bind λi=>
 (cond (decide (i.I=5)) (some true) ((ix a.D b).bind λj=>
 some (decide (j.I=3)))).bind λk=>
 cond k (
 H3 N a b d (Dp N a c g l) 1) (
 H3 N a b d (Dp N a c g l) 0)) (
 g)
def H4 (N:Nat):Option Bool:=
 some true
def H5 (N:Nat) (a:AH) (b:AX):Option Bool:=
 Dp N a b (H4 N) N 0
def H6 (N:Nat) (a:AH) (b:AX):Option Bool:=
 FE N a b (H5 N a b) N 0
def FG (N:Nat) (a:AX) (c:Option Bool):Nat→Int→Option Bool
 |0,_=>none
 |i+1,b=>
 cond (decide (b<(↑a.G.length:Int))) (
 (ix a.G b).bind λd=>
 (D4 N d 1125899906842624).bind λg=>
 cond (!g) (
 some false) (
 FG N a c i (BV (b+1)))) (
 c)
def JE (N:Nat) (b:AH) (a:AX):Option Bool:=
 cond ((((decide (a.H<0))||(decide (16777216<a.H)))||(decide ((↑a.G.length:Int)≠(↑b.F.length:Int))))||(decide ((↑a.D.length:Int)≠(↑b.D.length:Int)))) (
 some false) (
 FG N a (H6 N b a) N 0)
def Cy (N:Nat) (b:Int) (a:Int):Option Int:=
 cond ((decide (a<0))&&(decide ((BV (9223372036854775807+a))<b))) (
 some 9223372036854775807) (
 cond ((decide (0<a))&&(decide (b<(BV ((-9223372036854775808)+a))))) (
 some (-9223372036854775808)) (
 some (BV (b-a))))
def JJ (N:Nat) (a:AB):Option Int:=
 (Cy N a.A a.B).bind λb=>
 some b
def DG (N:Nat) (b:Int) (a:Int):Option Int:=
 cond ((decide (0<a))&&(decide ((BV (9223372036854775807-a))<b))) (
 some 9223372036854775807) (
 cond ((decide (a<0))&&(decide (b<(BV ((-9223372036854775808)-a))))) (
 some (-9223372036854775808)) (
 some (BV (b+a))))
def Fq (N:Nat) (a:AX) (c:Int→Option Int):Nat→Int→Int→Option Int
 |0,_,_=>none
 |k+1,d,b=>
 cond (decide (b<(↑a.E.length:Int))) (
 (ix a.E b).bind λg=>
 (JJ N g.G).bind λi=>
 (DG N d i).bind λj=>
 Fq N a c k j (BV (b+1))) (
 c d)
def Js (N:Nat) (a:Int):Option Int:=
 some a
def IM (N:Nat) (a:AX) (b:Int):Option Int:=
 Fq N a (Js N) N b 0
def Fs (N:Nat) (a:AX) (c:Int→Option Int):Nat→Int→Int→Option Int
 |0,_,_=>none
 |k+1,d,b=>
 cond (decide (b<(↑a.G.length:Int))) (
 (ix a.G b).bind λg=>
 (JJ N g).bind λi=>
 (DG N d i).bind λj=>
 Fs N a c k j (BV (b+1))) (
 c d)
def Jl (N:Nat) (a:AX):Option Int:=
 Fs N a (IM N a) N 0 0
def J1 (N:Nat):Option Bool:=
 some true
def IJ (N:Nat) (a:(List Int)) (c:Option Bool):Nat→Int→Int→Option Bool
 |0,_,_=>none
 |i+1,g,d=>
 cond (decide (d<(↑a.length:Int))) (
 (ix a d).bind λb=>
 cond ((decide (b<0))||(decide ((BV (1125899906842624-g))<b))) (
 some false) (
 IJ N a c i (BV (g+b)) (BV (d+1)))) (
 c)
def ME (N:Nat) (a:(List Int)):Option Bool:=
 IJ N a (J1 N) N 0 0
def LR (N:Nat) (b:(List Int)) (a:Int):Option Bool:=
 (cond (((decide (0≤a))&&(decide (a≤16)))&&(decide ((↑b.length:Int)=a))) ((ME N b).bind λc=>
 some c) (some false)).bind λd=>
 some d
def NM (N:Nat) (b:Int) (a:Int):Option Bool:=
 some ((decide (0≤b))&&(decide (b<a)))
def Ha (N:Nat) (b:AH) (a:BQ) (j:Int→Option (Int×Bool)):Nat→Int→Int→Option (Int×Bool)
 |0,_,_=>none
 |o+1,g,i=>
 cond (decide (i<(↑a.E.length:Int))) (
 (ix a.E i).bind λd=>
 (cond (decide (d.K<a.H)) (some true) ((NM N d.C (↑b.F.length:Int)).bind λk=>
 some (!k))).bind λl=>
 (cond l (some true) ((LR N d.Ad (↑b.Z.length:Int)).bind λm=>
 some (!m))).bind λn=>
 cond n (
 some (0,false)) (
 (Gh N d.Ad).bind λc=>
 cond ((decide (c≤0))||(decide (1125899906842624<(BV (g+c))))) (
 some (0,false)) (
 Ha N b a j o (BV (g+c)) (BV (i+1))))) (
 j g)
def Jc (N:Nat) (a:Int):Option (Int×Bool):=
 some (a,true)
def Fa (N:Nat) (a:AH) (b:BQ) (c:Int):Option (Int×Bool):=
 Ha N a b (Jc N) N c 0
def FZ (N:Nat) (b:AH) (a:BQ) (g:Int→Option (Int×Bool)):Nat→Int→Int→Option (Int×Bool)
 |0,_,_=>none
 |l+1,c,d=>
 cond (decide (d<(↑a.Af.length:Int))) (
 (ix a.Af d).bind λi=>
 (LR N i (↑b.Z.length:Int)).bind λk=>
 cond (!k) (
 some (0,false)) (
 (Gh N i).bind λj=>
 cond (decide (1125899906842624<(BV (c+j)))) (
 some (0,false)) (
 FZ N b a g l (BV (c+j)) (BV (d+1))))) (
 g c)
def Lh (N:Nat) (a:AH) (b:BQ):Option (Int×Bool):=
 FZ N a b (Fa N a b) N 0 0
def Ir (N:Nat) (a:Int):Option (Int×Bool):=
 some (a,true)
def G3 (N:Nat) (b:(List Int)) (a:Int) (g:Int→Option (Int×Bool)):Nat→Int→Int→Option (Int×Bool)
 |0,_,_=>none
 |j+1,i,c=>
 cond (decide (c<(↑b.length:Int))) (
 (ix b c).bind λd=>
 cond ((decide (d<0))||(decide ((BV (a-i))<d))) (
 some (0,false)) (
 G3 N b a g j (BV (i+d)) (BV (c+1)))) (
 g i)
def KW (N:Nat) (b:(List Int)) (a:Int):Option (Int×Bool):=
 G3 N b a (Ir N) N 0 0
def HJ (N:Nat) (d:AH) (g:BQ) (i:Option Bool):Nat→Int→Option Bool
 |0,_=>none
 |j+1,b=>
 cond (decide (b<(↑d.D.length:Int))) (
 (ix d.D b).bind λc=>
 (ix g.At b).bind λa=>
 cond ((((decide (a.P<0))||(decide (c.X<a.P)))||(decide (a.S<0)))||(decide (c.X<a.S))) (
 some false) (
 cond ((a.N&&(decide (c.I≠5)))&&(decide (c.I≠3))) (
 some false) (
 HJ N d g i j (BV (b+1))))) (
 i)
def HL (N:Nat) (d:AH) (a:BQ):Option Bool:=
 (Lh N d a).bind λb=>
 cond (!b.2) (
 some false) (
 (KW N a.Bo 1152921504606846976).bind λc=>
 cond (!c.2) (
 some false) (
 (KW N a.Bn (BV ((BV (c.1+1125899906842624))-b.1))).bind λg=>
 some g.2))
def HM (N:Nat) (a:AH) (b:BQ):Option Bool:=
 HJ N a b (HL N a b) N 0
def HK (N:Nat) (a:AH) (b:BQ) (d:Option Bool):Nat→Int→Option Bool
 |0,_=>none
 |l+1,c=>
 cond (decide (c<(↑a.F.length:Int))) (
 (ix a.F c).bind λk=>
 (ix b.Bj c).bind λg=>
 (cond (decide (g<0)) (some true) ((ix b.Bj c).bind λi=>
 some (decide ((max 0 (BV (k.R-1)))<i)))).bind λj=>
 cond j (
 some false) (
 HK N a b d l (BV (c+1)))) (
 d)
def MD (N:Nat) (b:AH) (a:BQ):Option Bool:=
 cond (((((((decide (a.H<0))||(decide (16777216<a.H)))||(decide ((↑a.Af.length:Int)≠(↑b.F.length:Int))))||(decide ((↑a.Bj.length:Int)≠(↑b.F.length:Int))))||(decide ((↑a.At.length:Int)≠(↑b.D.length:Int))))||(decide ((↑a.Bo.length:Int)≠(↑b.Z.length:Int))))||(decide ((↑a.Bn.length:Int)≠(↑b.Z.length:Int)))) (
 some false) (
 HK N b a (HM N b a) N 0)
def JQ (N:Nat) (a:Int):Option Int:=
 some a
def FJ (N:Nat) (a:(List Int)) (b:Int→Option Int):Nat→Int→Int→Option Int
 |0,_,_=>none
 |j+1,i,c=>
 cond (decide (c<(↑a.length:Int))) (
 (ix a c).bind λd=>
 (DG N i d).bind λg=>
 FJ N a b j g (BV (c+1))) (
 b i)
def Fk (N:Nat) (a:(List Int)):Option Int:=
 FJ N a (JQ N) N 0 0
def Cx (N:Nat) (a:Int):Option AB:=
 some (⟨a,a⟩:AB)
def G5 (N:Nat) (a:AB) (b:AB):Option AB:=
 (DG N a.B b.B).bind λc=>
 (DG N a.A b.A).bind λd=>
 some (⟨c,d⟩:AB)
def Fp (N:Nat) (a:AB):Option AB:=
 some (⟨(min a.B 1125899906842624),(min a.A 1125899906842624)⟩:AB)
def GT (N:Nat) (a:List AY):Option (List AY):=
 some a
def Dd (N:Nat) (a:Int) (b:Int) (d:AB) (c:List AY) (i:Bool):Option (List AY):=
 cond (!i) (
 (Fp N d).bind λg=>
 chk (room (c.length+1) 32) <|
 GT N (c++([(⟨a,b,g⟩:AY)]:List AY))) (
 GT N c)
def Il (N:Nat) (c:Int) (d:AY) (g:Int) (i:Int) (j:(List AY)→Bool→Int→Option (List AY)) (a:List AY) (b:Bool):Option (List AY):=
 chk (room (a.length+1) 32) <|
 j (a++([({ d with G:=(⟨g,i⟩:AB)}:AY)]:List AY)) b (BV (c+1))
def Im (N:Nat) (a:Int) (b:Int) (g:AB) (d:List AY) (i:Int) (c:AY) (j:(List AY)→Bool→Int→Option (List AY)) (k:Bool) (l:Int) (m:Int):Option (List AY):=
 cond ((!k)&&((decide (a<c.K))||((decide (c.K=a))&&(decide (b<c.C))))) (
 (Fp N g).bind λn=>
 chk (room (d.length+1) 32) <|
 Il N i c l m j (d++([(⟨a,b,n⟩:AY)]:List AY)) true) (
 Il N i c l m j d k)
def Dc (N:Nat) (c:(List AY)) (a:Int) (b:Int) (d:AB) (j:(List AY)→Bool→Option (List AY)):Nat→(List AY)→Bool→Int→Option (List AY)
 |0,_,_,_=>none
 |o+1,k,l,i=>
 cond (decide (i<(↑c.length:Int))) (
 (ix c i).bind λp=>
 (ix c i).bind λg=>
 cond ((decide (g.K=a))&&(decide (g.C=b))) (
 (G5 N g.G d).bind λn=>
 (Fp N n).bind λm=>
 Im N a b d k i g (Dc N c a b d j o) true m.B m.A) (
 Im N a b d k i g (Dc N c a b d j o) l g.G.B g.G.A)) (
 j k l)
def H7 (N:Nat) (d:(List AY)) (a:Int) (b:Int) (c:AB):Option (List AY):=
 cond (decide (c.A≤0)) (
 some d) (
 Dc N d a b c (Dd N a b c) N ([]:List AY) false 0)
def J9 (N:Nat) (a:Bool):Option Int:=
 cond a (
 some 1) (
 some 0)
def Gv (N:Nat) (a:BQ) (d:(List AY)→Option AX):Nat→Int→(List AY)→Option AX
 |0,_,_=>none
 |n+1,b,c=>
 cond (decide (b<(↑a.E.length:Int))) (
 (ix a.E b).bind λg=>
 (Fk N g.Ad).bind λi=>
 (ix a.E b).bind λj=>
 (ix a.E b).bind λk=>
 (Cx N i).bind λl=>
 (H7 N c j.K k.C l).bind λm=>
 Gv N a d n (BV (b+1)) m) (
 d c)
def Gu (N:Nat) (b:BQ) (j:(List AF)→Option AX):Nat→Int→(List AF)→Option AX
 |0,_,_=>none
 |l+1,c,d=>
 cond (decide (c<(↑b.At.length:Int))) (
 (ix b.At c).bind λa=>
 (Cx N a.P).bind λg=>
 (J9 N a.N).bind λk=>
 (Cx N k).bind λi=>
 chk (room (d.length+([(⟨g,a.S,i⟩:AF)]:List AF).length) 40) <|
 Gu N b j l (BV (c+1)) (d++([(⟨g,a.S,i⟩:AF)]:List AF))) (
 j d)
def KP (N:Nat) (a:BQ) (d:List AB) (b:List AY) (c:List AF):Option AX:=
 some (⟨a.H,d,b,c⟩:AX)
def IF (N:Nat) (a:BQ) (c:List AB) (b:List AY):Option AX:=
 Gu N a (KP N a c b) N 0 ([]:List AF)
def JF (N:Nat) (a:BQ) (b:List AB):Option AX:=
 Gv N a (IF N a b) N 0 ([]:List AY)
def Gw (N:Nat) (a:BQ) (d:(List AB)→Option AX):Nat→Int→(List AB)→Option AX
 |0,_,_=>none
 |k+1,b,c=>
 cond (decide (b<(↑a.Af.length:Int))) (
 (ix a.Af b).bind λi=>
 (Fk N i).bind λj=>
 (Cx N j).bind λg=>
 chk (room (c.length+([g]:List AB).length) 16) <|
 Gw N a d k (BV (b+1)) (c++([g]:List AB))) (
 d c)
def Kd (N:Nat) (b:AH) (a:BQ):Option AX:=
 Gw N a (JF N a) N 0 ([]:List AB)
def HG (N:Nat):Option Bool:=
 some true
def D0 (N:Nat) (a:(List AB)) (b:(List AB)) (c:Option Bool):Nat→Int→Option Bool
 |0,_=>none
 |j+1,d=>
 cond (decide (d<(↑a.length:Int))) (
 (ix a d).bind λg=>
 (ix b d).bind λi=>
 cond (!(M8 g.v i.v)) (
 some false) (
 D0 N a b c j (BV (d+1)))) (
 c)
def Fu (N:Nat) (a:(List AB)) (b:(List AB)):Option Bool:=
 cond (decide ((↑a.length:Int)≠(↑b.length:Int))) (
 some false) (
 D0 N a b (HG N) N 0)
def Ed (N:Nat) (b:AX) (c:AX) (d:Option Bool):Nat→Int→Option Bool
 |0,_=>none
 |j+1,a=>
 cond (decide (a<(↑b.D.length:Int))) (
 (ix b.D a).bind λg=>
 (ix c.D a).bind λi=>
 cond (!(M8 g.v i.v)) (
 some false) (
 Ed N b c d j (BV (a+1)))) (
 d)
def IN (N:Nat):Option Bool:=
 some true
def Ft (N:Nat) (a:AX) (b:AX):Option Bool:=
 Ed N a b (IN N) N 0
def D6 (N:Nat) (a:AX) (c:AX) (d:Option Bool):Nat→Int→Option Bool
 |0,_=>none
 |j+1,b=>
 cond (decide (b<(↑a.E.length:Int))) (
 (ix a.E b).bind λg=>
 (ix c.E b).bind λi=>
 cond (!(M8 g.v i.v)) (
 some false) (
 D6 N a c d j (BV (b+1)))) (
 d)
def IU (N:Nat) (a:AX) (b:AX):Option Bool:=
 (Fu N a.G b.G).bind λc=>
 cond ((((!c)||(decide (a.H≠b.H)))||(decide ((↑a.E.length:Int)≠(↑b.E.length:Int))))||(decide ((↑a.D.length:Int)≠(↑b.D.length:Int)))) (
 some false) (
 D6 N a b (Ft N a b) N 0)
def GG (N:Nat) (a:AB) (b:Int):Option Bool:=
 some ((decide (a.B≤b))&&(decide (b≤a.A)))
def Dm (N:Nat) (a:Int):Option Int:=
 some a
def H1 (N:Nat) (c:Int) (a:Int→Int→Option Int) (b:Int):Option Int:=
 a b (BV (c+1))
def DE (N:Nat) (a:(List Hp)) (b:Int) (c:Int) (d:Int→Option Int):Nat→Int→Int→Option Int
 |0,_,_=>none
 |p+1,i,g=>
 cond (decide (g<(↑a.length:Int))) (
 (ix a g).bind λj=>
 (cond (decide (j.K=b)) ((ix a g).bind λk=>
 some (decide (k.C=c))) (some false)).bind λl=>
 cond l (
 (ix a g).bind λm=>
 (Fk N m.Ad).bind λn=>
 (DG N i n).bind λo=>
 H1 N g (DE N a b c d p) o) (
 H1 N g (DE N a b c d p) i)) (
 d i)
def JD (N:Nat) (c:(List Hp)) (a:Int) (b:Int):Option Int:=
 DE N c a b (Dm N) N 0 0
def H2 (N:Nat):Option Bool:=
 some false
def FD (N:Nat) (a:(List AY)) (b:Int) (c:Int) (d:Option Bool):Nat→Int→Option Bool
 |0,_=>none
 |l+1,g=>
 cond (decide (g<(↑a.length:Int))) (
 (ix a g).bind λi=>
 (cond (decide (i.K=b)) ((ix a g).bind λj=>
 some (decide (j.C=c))) (some false)).bind λk=>
 cond k (
 some true) (
 FD N a b c d l (BV (g+1)))) (
 d)
def IE (N:Nat) (c:(List AY)) (a:Int) (b:Int):Option Bool:=
 FD N c a b (H2 N) N 0
def Ex (N:Nat) (a:AX) (d:BQ) (g:Option Bool):Nat→Int→Option Bool
 |0,_=>none
 |k+1,b=>
 cond (decide (b<(↑a.E.length:Int))) (
 (ix a.E b).bind λc=>
 (JD N d.E c.K c.C).bind λi=>
 (GG N c.G i).bind λj=>
 cond (!j) (
 some false) (
 Ex N a d g k (BV (b+1)))) (
 g)
def Ew (N:Nat) (c:AX) (a:BQ) (d:Option Bool):Nat→Int→Option Bool
 |0,_=>none
 |k+1,b=>
 cond (decide (b<(↑a.E.length:Int))) (
 (ix a.E b).bind λg=>
 (ix a.E b).bind λi=>
 (IE N c.E g.K i.C).bind λj=>
 cond (!j) (
 some false) (
 Ew N c a d k (BV (b+1)))) (
 d)
def Ev (N:Nat) (b:AX) (c:BQ) (d:Option Bool):Nat→Int→Option Bool
 |0,_=>none
 |p+1,a=>
 cond (decide (a<(↑b.D.length:Int))) (
 (ix b.D a).bind λg=>
 (ix c.At a).bind λi=>
 (GG N g.P i.P).bind λj=>
 (cond (!j) (some true) ((ix b.D a).bind λk=>
 (ix c.At a).bind λl=>
 (J9 N l.N).bind λm=>
 (GG N k.N m).bind λn=>
 some (!n))).bind λo=>
 cond o (
 some false) (
 Ev N b c d p (BV (a+1)))) (
 d)
def Hk (N:Nat):Option Bool:=
 some true
def GU (N:Nat) (a:AX) (b:BQ):Option Bool:=
 Ev N a b (Hk N) N 0
def GV (N:Nat) (a:AX) (b:BQ):Option Bool:=
 Ew N a b (GU N a b) N 0
def GW (N:Nat) (a:AX) (b:BQ):Option Bool:=
 Ex N a b (GV N a b) N 0
def Ey (N:Nat) (a:AX) (c:BQ) (d:Option Bool):Nat→Int→Option Bool
 |0,_=>none
 |l+1,b=>
 cond (decide (b<(↑a.G.length:Int))) (
 (ix c.Af b).bind λg=>
 (Fk N g).bind λi=>
 (ix a.G b).bind λj=>
 (GG N j i).bind λk=>
 cond (!k) (
 some false) (
 Ey N a c d l (BV (b+1)))) (
 d)
def KA (N:Nat) (c:AH) (a:AX) (b:BQ):Option Bool:=
 cond (((decide (a.H≠b.H))||(decide ((↑a.G.length:Int)≠(↑c.F.length:Int))))||(decide ((↑a.D.length:Int)≠(↑c.D.length:Int)))) (
 some false) (
 Ey N a b (GW N a b) N 0)
def Gx (N:Nat) (c:Int) (b:Int) (a:Int):Option Int:=
 cond (decide (c<b)) (
 some b) (
 cond (decide (a<c)) (
 some a) (
 some c))
def KC (N:Nat) (a:Cs) (b:Int):Option Cs:=
 some ({ a with S:=b}:Cs)
def K6 (N:Nat) (c:AS) (b:Cs) (a:Int):Option Cs:=
 cond (decide (c.X≠0)) (
 (Gx N a 0 c.X).bind λd=>
 KC N b d) (
 KC N b b.S)
def Hl (N:Nat) (c:Int) (b:Int) (a:Int):Option Int:=
 (Cy N b c).bind λg=>
 (Cy N 0 a).bind λi=>
 (Gx N g i a).bind λj=>
 (DG N c j).bind λd=>
 some d
def JG (N:Nat) (b:AS) (a:AF) (c:Bool):Option AF:=
 cond c (
 (Hl N a.P.B a.S b.Am).bind λd=>
 (Hl N a.P.A a.S b.Am).bind λg=>
 some ({ a with P:=(⟨d,g⟩:AB)}:AF)) (
 (Cy N a.P.B b.Am).bind λi=>
 (Gx N i 0 b.X).bind λj=>
 (DG N a.P.A b.Am).bind λk=>
 (Gx N k 0 b.X).bind λl=>
 some ({ a with P:=(⟨j,l⟩:AB)}:AF))
def GA (N:Nat) (a:Int) (c:Int→(List AF)→Option (List AF)) (b:List AF):Option (List AF):=
 c (BV (a+1)) b
def C6 (N:Nat) (p0_w:AK) (a:Cn) (g:(List AF)→Option (List AF)):Nat→Int→(List AF)→Option (List AF)
 |0,_,_=>none
 |o+1,d,b=>
 cond (decide (d<(↑a.Az.length:Int))) (
 (ix a.Az d).bind λc=>
 (Fe N c.Aa (↑p0_w.J.D.length:Int)).bind λi=>
 cond i (
 (ix p0_w.J.D c.Aa).bind λj=>
 (ix b c.Aa).bind λp=>
 (ix b c.Aa).bind λk=>
 (ix a.Az d).bind λl=>
 (K6 N j (⟨0,k.S,false,false⟩:Cs) l.S).bind λm=>
 (ix b c.Aa).bind λq=>
 (ix b c.Aa).bind λn=>
 GA N d (C6 N p0_w a g o) (upd b c.Aa ({ n with S:=m.S}))) (
 GA N d (C6 N p0_w a g o) b)) (
 g b)
def F9 (N:Nat) (p0_w:AK) (a:Int) (b:List AF) (j:Int→(List AF)→Option (List AF)) (c:Bool):Option (List AF):=
 (ix p0_w.J.D a).bind λd=>
 (ix b a).bind λk=>
 (ix b a).bind λg=>
 (JG N d g c).bind λi=>
 (ix b a).bind λl=>
 (ix b a).bind λm=>
 j (BV (a+1)) (upd b a i)
def C5 (N:Nat) (p0_w:AK) (a:(List Bool)):Nat→Int→(List AF)→Option (List AF)
 |0,_,_=>none
 |g+1,b,c=>
 cond (decide (b<(↑p0_w.J.D.length:Int))) (
 cond (decide (b<(↑a.length:Int))) (
 (ix a b).bind λd=>
 F9 N p0_w b c (C5 N p0_w a g) d) (
 F9 N p0_w b c (C5 N p0_w a g) false)) (
 some c)
def EY (N:Nat) (p0_w:AK) (a:(List Bool)) (b:List AF):Option (List AF):=
 C5 N p0_w a N 0 b
def Do (N:Nat) (p0_w:AK) (b:Cn) (a:(List Bool)) (c:List AF):Option (List AF):=
 C6 N p0_w b (EY N p0_w a) N 0 c
def Dn (N:Nat) (a:Int) (b:Int→(List AF)→Option (List AF)) (c:List AF):Option (List AF):=
 b (BV (a+1)) c
def GB (N:Nat) (p0_w:AK) (c:Cn) (k:Int) (a:Le) (d:(List AF)→Option (List AF)) (b:List AF):Option (List AF):=
 (ix p0_w.J.D a.Aa).bind λl=>
 (cond (decide (l.I=5)) ((ix c.Bb k).bind λg=>
 some (decide (g.I=3))) (some false)).bind λm=>
 cond m (
 (Cx N 0).bind λi=>
 (ix b a.Aa).bind λn=>
 (ix b a.Aa).bind λj=>
 d (upd b a.Aa ({ j with N:=i}))) (
 d b)
def CO (N:Nat) (p0_w:AK) (a:Cn) (g:(List AF)→Option (List AF)):Nat→Int→(List AF)→Option (List AF)
 |0,_,_=>none
 |i+1,b,d=>
 cond (decide (b<(↑a.Bb.length:Int))) (
 (ix a.Bb b).bind λc=>
 (Fe N c.Aa (↑p0_w.J.D.length:Int)).bind λj=>
 cond (!j) (
 Dn N b (CO N p0_w a g i) d) (
 (ix p0_w.J.D c.Aa).bind λk=>
 (cond (decide (k.I=5)) ((ix a.Bb b).bind λl=>
 some (decide (l.I=2))) (some false)).bind λm=>
 cond m (
 (Cx N 1).bind λn=>
 (ix d c.Aa).bind λp=>
 (ix d c.Aa).bind λo=>
 GB N p0_w a b c (Dn N b (CO N p0_w a g i)) (upd d c.Aa ({ o with N:=n}))) (
 GB N p0_w a b c (Dn N b (CO N p0_w a g i)) d))) (
 g d)
def HD (N:Nat) (p0_w:AK) (a:Cn) (b:(List Bool)):Option (List AF):=
 CO N p0_w a (Do N p0_w a b) N 0 p0_w.L.D
def KB (N:Nat) (a:AS) (b:AB):Option Bool:=
 some (decide ((max b.B (BV (a.Ab+1)))≤(min b.A (BV (a.Ae-1)))))
def FH (N:Nat) (a:AF) (b:Int) (c:Int):Option AF:=
 some ({ a with N:=(⟨b,c⟩:AB)}:AF)
def H8 (N:Nat) (c:Int→Int→Option AF) (a:Int) (b:Int):Option AF:=
 c a b
def IG (N:Nat) (b:AS) (a:AF) (c:AB):Option AF:=
 cond ((decide (b.I≠3))||(decide (c.A<c.B))) (
 some a) (
 cond ((!((decide (a.N.B≤0))&&(decide (0≤a.N.A))))&&(!((decide (a.N.B≤1))&&(decide (1≤a.N.A))))) (
 some a) (
 (cond (decide (b.Ab<b.Ae)) ((KB N b c).bind λg=>
 some g) (some false)).bind λd=>
 cond (((decide (b.Ae≤c.A))||(d&&((decide (a.N.B≤1))&&(decide (1≤a.N.A)))))&&(((decide (c.B≤b.Ab))&&(decide (c.B<b.Ae)))||(d&&((decide (a.N.B≤0))&&(decide (0≤a.N.A)))))) (
 FH N a 0 1) (
 cond ((decide (b.Ae≤c.A))||(d&&((decide (a.N.B≤1))&&(decide (1≤a.N.A))))) (
 H8 N (FH N a) 1 1) (
 H8 N (FH N a) 0 0))))
def F6 (N:Nat) (a:Int) (c:(List AY)→Int→Option ((List AY)×(List AF)×(List AB))) (b:List AY):Option ((List AY)×(List AF)×(List AB)):=
 c b (BV (a+1))
def CM (N:Nat) (p0_w:AK) (c:(List AY)→Option ((List AY)×(List AF)×(List AB))):Nat→(List AY)→Int→Option ((List AY)×(List AF)×(List AB))
 |0,_,_=>none
 |i+1,b,a=>
 cond (decide (a<(↑p0_w.L.E.length:Int))) (
 (ix p0_w.L.E a).bind λd=>
 cond (decide (p0_w.L.H<d.K)) (
 (ix p0_w.L.E a).bind λg=>
 chk (room (b.length+1) 32) <|
 F6 N a (CM N p0_w c i) (b++([g]:List AY))) (
 F6 N a (CM N p0_w c i) b)) (
 c b)
def FY (N:Nat) (a:Int) (b:Int→(List AF)→Option ((List AY)×(List AF)×(List AB))) (c:List AF):Option ((List AY)×(List AF)×(List AB)):=
 b (BV (a+1)) c
def Cc (N:Nat) (p0_w:AK) (g:List AB) (d:List AY):Nat→Int→(List AF)→Option ((List AY)×(List AF)×(List AB))
 |0,_,_=>none
 |i+1,a,b=>
 cond (decide (a<(↑p0_w.J.D.length:Int))) (
 (ix p0_w.J.D a).bind λc=>
 cond (decide (c.I=3)) (
 (ix b a).bind λm=>
 (ix b a).bind λj=>
 (ix g c.V).bind λn=>
 (ix g c.V).bind λk=>
 (IG N c j k).bind λl=>
 (ix b a).bind λo=>
 (ix b a).bind λp=>
 FY N a (Cc N p0_w g d i) (upd b a l)) (
 FY N a (Cc N p0_w g d i) b)) (
 some (d,b,g))
def C3 (N:Nat) (p0_w:AK) (b:List AB) (a:List AY):Option ((List AY)×(List AF)×(List AB)):=
 Cc N p0_w b a N 0 p0_w.L.D
def BO (N:Nat) (p0_w:AK) (a:List AB):Option ((List AY)×(List AF)×(List AB)):=
 CM N p0_w (C3 N p0_w a) N ([]:List AY) 0
def F8 (N:Nat) (a:Int→Int→Option ((List AY)×(List AF)×(List AB))) (b:Int) (c:Int):Option ((List AY)×(List AF)×(List AB)):=
 a b c
def F7 (N:Nat) (a:Int) (d:Int→Int→Int→Option ((List AY)×(List AF)×(List AB))) (b:Int) (c:Int):Option ((List AY)×(List AF)×(List AB)):=
 d (BV (a+1)) b c
def CN (N:Nat) (p0_w:AK) (j:Int) (i:Int→Int→Option ((List AY)×(List AF)×(List AB))):Nat→Int→Int→Int→Option ((List AY)×(List AF)×(List AB))
 |0,_,_,_=>none
 |k+1,a,b,c=>
 cond (decide (a<(↑p0_w.L.E.length:Int))) (
 (ix p0_w.L.E a).bind λd=>
 cond ((decide (d.C=j))&&(decide (d.K≤p0_w.L.H))) (
 (G5 N (⟨b,c⟩:AB) d.G).bind λg=>
 F7 N a (CN N p0_w j i k) g.B g.A) (
 F7 N a (CN N p0_w j i k) b c)) (
 i b c)
def C4 (N:Nat) (i:Int) (b:List AB) (g:Int→(List AB)→Option ((List AY)×(List AF)×(List AB))) (c:Int) (d:Int):Option ((List AY)×(List AF)×(List AB)):=
 (Fp N (⟨c,d⟩:AB)).bind λa=>
 chk (room (b.length+([a]:List AB).length) 16) <|
 g (BV (i+1)) (b++([a]:List AB))
def DN (N:Nat) (p0_w:AK) (g:Int) (a:List AB) (b:Int→(List AB)→Option ((List AY)×(List AF)×(List AB))) (c:Int) (d:Int):Option ((List AY)×(List AF)×(List AB)):=
 CN N p0_w g (C4 N g a b) N 0 c d
def BJ (N:Nat) (p0_w:AK) (a:(List AB)) (d:(List AB)→Option ((List AY)×(List AF)×(List AB))):Nat→Int→(List AB)→Option ((List AY)×(List AF)×(List AB))
 |0,_,_=>none
 |j+1,b,g=>
 cond (decide (b<(↑p0_w.J.F.length:Int))) (
 (ix p0_w.L.G b).bind λp=>
 (ix p0_w.L.G b).bind λc=>
 cond (decide (b<(↑a.length:Int))) (
 (ix a b).bind λk=>
 (cond (decide (0≤k.B)) ((ix a b).bind λl=>
 (ix a b).bind λm=>
 some (decide (l.B≤m.A))) (some false)).bind λn=>
 cond n (
 (ix a b).bind λo=>
 (G5 N c o).bind λi=>
 F8 N (DN N p0_w b g (BJ N p0_w a d j)) i.B i.A) (
 F8 N (DN N p0_w b g (BJ N p0_w a d j)) c.B c.A)) (
 DN N p0_w b g (BJ N p0_w a d j) c.B c.A)) (
 d g)
def Ff (N:Nat) (p0_w:AK) (a:(List AB)):Option ((List AY)×(List AF)×(List AB)):=
 BJ N p0_w a (BO N p0_w) N 0 p0_w.Ai
def Iu (N:Nat) (p0_w:AK) (a:Jb) (b:Int):Option Bool:=
 (cond (decide (a.Ay≠b)) (some true) ((Fe N a.Bh (↑p0_w.J.Z.length:Int)).bind λc=>
 some (!c))).bind λd=>
 cond (((d||(decide (a.Al≤0)))||(decide (a.C<(-1))))||(decide ((↑p0_w.J.F.length:Int)≤a.C))) (
 some false) (
 (cond (decide (a.C=(-1))) (some true) ((ix p0_w.J.F a.C).bind λg=>
 (ix p0_w.J.F b).bind λi=>
 some (decide (g.Av=i.Av)))).bind λj=>
 some j)
def EZ (N:Nat) (a:Int) (c:(List AD)→Int→Option (List AD)) (b:List AD):Option (List AD):=
 c b (BV (a+1))
def CB (N:Nat) (p0_w:AK) (d:Int) (g:(List AD)→Option (List AD)):Nat→(List AD)→Int→Option (List AD)
 |0,_,_=>none
 |i+1,c,a=>
 cond (decide (a<(↑p0_w.J.D.length:Int))) (
 (ix p0_w.J.D a).bind λb=>
 cond (decide (b.V=d)) (
 chk (room (c.length+1) 32) <|
 EZ N a (CB N p0_w d g i) (c++([(⟨0,a,b.C,b.Y⟩:AD)]:List AD))) (
 cond ((decide (b.C=d))&&(decide (b.I=4))) (
 chk (room (c.length+1) 32) <|
 EZ N a (CB N p0_w d g i) (c++([(⟨0,a,b.V,b.Y⟩:AD)]:List AD))) (
 EZ N a (CB N p0_w d g i) c))) (
 g c)
def GE (N:Nat) (a:List AD):Option (List AD):=
 some a
def C8 (N:Nat) (p0_w:AK) (c:Int) (a:List AD):Option (List AD):=
 (ix p0_w.J.F c).bind λb=>
 cond (decide (b.R≠0)) (
 chk (room (a.length+1) 32) <|
 GE N (a++([(⟨0,(-1),b.Ao,b.Y⟩:AD)]:List AD))) (
 GE N a)
def C9 (N:Nat) (p0_w:AK) (a:Int) (b:List AD):Option (List AD):=
 CB N p0_w a (C8 N p0_w a) N b 0
def GF (N:Nat) (a:Int) (b:(List AD)→Int→Option (List AD)) (c:List AD):Option (List AD):=
 b c (BV (a+1))
def CQ (N:Nat) (p0_w:AK) (c:Int) (a:Cn) (g:(List AD)→Option (List AD)):Nat→(List AD)→Int→Option (List AD)
 |0,_,_=>none
 |m+1,d,b=>
 cond (decide (b<(↑a.An.length:Int))) (
 (ix a.An b).bind λk=>
 (Iu N p0_w k c).bind λl=>
 cond l (
 (ix a.An b).bind λi=>
 (ix a.An b).bind λj=>
 chk (room (d.length+([(⟨i.Al,0,j.C,0⟩:AD)]:List AD).length) 32) <|
 GF N b (CQ N p0_w c a g m) (d++([(⟨i.Al,0,j.C,0⟩:AD)]:List AD))) (
 GF N b (CQ N p0_w c a g m) d)) (
 g d)
def Fg (N:Nat) (p0_w:AK) (a:Int) (b:Cn):Option (List AD):=
 CQ N p0_w a b (C9 N p0_w a) N ([]:List AD) 0
def FM (N:Nat) (a:Int) (b:Int):Option (Int×Int×Bool):=
 some (a,b,true)
def Gk (N:Nat) (a:Int) (b:Int) (g:Int) (i:Int→Int→Int→Option (Int×Int×Bool)) (c:Int):Option (Int×Int×Bool):=
 (Qq .i64 c a).bind λd=>
 (UV c a).bind λj=>
 cond (decide (1125899906842624<(BV ((BV (2*b))+d)))) (
 some (0,0,false)) (
 (Qq .i64 g 2).bind λk=>
 i (BV ((BV (2*b))+d)) j k)
def Ce (N:Nat) (c:Int) (b:Int) (a:Int) (g:Int→Int→Option (Int×Int×Bool)):Nat→Int→Int→Int→Option (Int×Int×Bool)
 |0,_,_,_=>none
 |k+1,i,j,d=>
 cond (decide (0<d)) (
 cond (decide ((Jp .and .i64 b d)≠0)) (
 Gk N a i d (Ce N c b a g k) (BV ((BV (2*j))+c))) (
 Gk N a i d (Ce N c b a g k) (BV (2*j)))) (
 g i j)
def Fl (N:Nat) (c:Int) (a:Int) (b:Int):Option (Int×Int×Bool):=
 cond ((((((decide (c<0))||(decide (1125899906842624<c)))||(decide (a<0)))||(decide (1125899906842624<a)))||(decide (b<1)))||(decide (1125899906842624<b))) (
 some (0,0,false)) (
 Ce N c a b (FM N) N 0 0 1125899906842624)
def JP (N:Nat) (a:EW) (b:Int×Int×Bool) (c:Int):Option (Int×Int):=
 cond (decide ((BV (b.2.1+c))<a.R)) (
 some (b.1,(BV (b.2.1+c)))) (
 some ((BV (b.1+1)),(BV ((BV (b.2.1+c))-a.R))))
def IH (N:Nat) (a:EW) (d:Int) (b:Int):Option (Int×Int):=
 (Fl N d a.W a.R).bind λc=>
 cond (!c.2.2) (
 some (0,0)) (
 cond ((decide (b<0))||(decide (a.R≤b))) (
 JP N a c 0) (
 JP N a c b))
def FI (N:Nat) (c:Int) (a:Int) (b:Int):Option Int:=
 (Fl N c a b).bind λd=>
 some d.1
def KD (N:Nat) (a:Int):Option Bool:=
 some ((decide (0≤a))&&(decide (a≤1125899906842624)))
def H9 (N:Nat) (a:(List A9)):Option Bool:=
 some ((decide (1≤(↑a.length:Int)))&&(decide ((↑a.length:Int)≤32)))
def FL (N:Nat) (a:(List A9)) (c:Option Bool):Nat→Int→Option Bool
 |0,_=>none
 |t+1,b=>
 cond (decide (b<(↑a.length:Int))) (
 (ix a b).bind λd=>
 (KD N d.M).bind λg=>
 (cond (!g) (some true) ((ix a b).bind λi=>
 (KD N i.Q).bind λj=>
 some (!j))).bind λk=>
 (cond k (some true) ((cond (decide (0<b)) ((ix a b).bind λl=>
 (ix a (BV (b-1))).bind λm=>
 (cond (decide (l.M≤m.M)) (some true) ((ix a b).bind λn=>
 (ix a (BV (b-1))).bind λo=>
 some (decide (n.Q<o.Q)))).bind λp=>
 some p) (some false)).bind λq=>
 some q)).bind λs=>
 cond s (
 some false) (
 FL N a c t (BV (b+1)))) (
 c)
def JI (N:Nat) (a:(List A9)):Option Bool:=
 FL N a (H9 N a) N 0
def Gj (N:Nat) (a:(List A9)):Option (Int×Bool):=
 (ix a (BV ((↑a.length:Int)-1))).bind λb=>
 some (b.Q,false)
def FK (N:Nat) (a:(List A9)) (c:Int) (d:Option (Int×Bool)):Nat→Int→Option (Int×Bool)
 |0,_=>none
 |p+1,b=>
 cond (decide (b<(↑a.length:Int))) (
 (ix a b).bind λi=>
 cond (decide (c≤i.M)) (
 (ix a (BV (b-1))).bind λj=>
 (ix a b).bind λk=>
 (ix a (BV (b-1))).bind λl=>
 (ix a b).bind λm=>
 (ix a (BV (b-1))).bind λn=>
 (Fl N (BV (c-j.M)) (BV (k.Q-l.Q)) (BV (m.M-n.M))).bind λg=>
 (ix a (BV (b-1))).bind λo=>
 some ((BV (o.Q+g.1)),(decide (0<g.2.1)))) (
 FK N a c d p (BV (b+1)))) (
 d)
def JH (N:Nat) (a:(List A9)) (b:Int):Option (Int×Bool):=
 (ix a 0).bind λc=>
 cond (decide (b≤c.M)) (
 (ix a 0).bind λd=>
 some (d.Q,false)) (
 FK N a b (Gj N a) N 1)
def Ke (N:Nat) (a:(List A9)) (b:Int):Option Int:=
 (JI N a).bind λc=>
 cond (!c) (
 some 0) (
 (JH N a b).bind λd=>
 some d.1)
def IP (N:Nat) (a:AS) (c:Int) (b:Bool) (g:(List A9)) (d:Int) (j:Int) (k:Int):Option Int:=
 cond (decide (a.I=0)) (
 (Ke N g k).bind λl=>
 (FI N l c a.X).bind λm=>
 (DG N m a.Aw).bind λn=>
 some n) (
 cond ((decide (a.I=1))||((decide (a.I=5))&&b)) (
 (FI N (max 0 j) a.W a.R).bind λo=>
 some o) (
 cond (decide (a.I=2)) (
 (FI N a.W c a.X).bind λp=>
 some p) (
 cond ((decide (a.I=3))&&b) (
 (FI N d a.W a.R).bind λi=>
 some i) (
 some 0))))
def IX (N:Nat) (b:AS) (d:Int) (c:Bool) (g:(List A9)) (a:Int) (i:Int):Option Int:=
 (Cy N a b.Ax).bind λj=>
 cond (decide (b.C≠(-1))) (
 (FI N i b.Aj b.Ag).bind λk=>
 (Cy N a k).bind λl=>
 IP N b d c g a j (max 0 l)) (
 IP N b d c g a j a)
def GX (N:Nat) (b:AS) (c:AF) (a:AB) (d:AB):Option AB:=
 (IX N b c.P.B (decide (1≤c.N.B)) b.Ac.B a.B d.A).bind λg=>
 (IX N b c.P.A (decide (1≤c.N.A)) b.Ac.A a.A d.B).bind λi=>
 some (⟨g,i⟩:AB)
def IW (N:Nat) (c:Int) (a:Int) (b:Int):Option Int:=
 (Fl N c a b).bind λd=>
 some d.1
def Iv (N:Nat) (a:AS) (b:Int) (c:Int):Option Int:=
 cond (decide (a.I≠4)) (
 some 0) (
 (IW N b a.W a.R).bind λd=>
 (IW N c a.Aj a.Ag).bind λg=>
 some (BV (d-g)))
def Ez (N:Nat) (c:AS) (a:AB) (b:AB):Option AB:=
 (Iv N c a.B b.A).bind λd=>
 (Iv N c a.A b.B).bind λg=>
 some (⟨d,g⟩:AB)
def DV (N:Nat) (a:AB):Option AB:=
 some (⟨(max a.B 0),(max a.A 0)⟩:AB)
def Gt (N:Nat) (p0_w:AK) (a:AD) (b:Int) (k:AS) (c:Int) (d:Int):Option AB:=
 (ix p0_w.L.D a.Aa).bind λl=>
 (ix p0_w.L.D a.Aa).bind λg=>
 (Cx N b).bind λi=>
 (GX N k g i (⟨c,d⟩:AB)).bind λj=>
 some j
def Cd (N:Nat) (p0_w:AK) (d:Int) (b:AD) (c:Int):Option AB:=
 cond (decide (0<b.Bf)) (
 some (⟨0,b.Bf⟩:AB)) (
 cond (decide (b.Aa<0)) (
 (ix p0_w.J.F d).bind λk=>
 (IH N k c 0).bind λv=>
 (IH N k c (BV (k.R-1))).bind λw=>
 some (⟨v.1,w.1⟩:AB)) (
 (ix p0_w.J.D b.Aa).bind λa=>
 cond (decide (a.I≠4)) (
 (Cx N 0).bind λg=>
 cond (decide (0≤a.C)) (
 (ix p0_w.Ai a.C).bind λx=>
 (ix p0_w.Ai a.C).bind λi=>
 Gt N p0_w b c a i.B i.A) (
 Gt N p0_w b c a g.B g.A)) (
 cond (decide (a.V=d)) (
 (Cx N c).bind λl=>
 (ix p0_w.Ai a.C).bind λy=>
 (ix p0_w.Ai a.C).bind λm=>
 (Ez N a l m).bind λn=>
 (DV N n).bind λo=>
 some o) (
 (ix p0_w.Ai a.V).bind λz=>
 (ix p0_w.Ai a.V).bind λp=>
 (Cx N c).bind λq=>
 (Ez N a p q).bind λj=>
 (Cy N 0 j.A).bind λs=>
 (Cy N 0 j.B).bind λt=>
 (DV N (⟨s,t⟩:AB)).bind λu=>
 some u))))
def ID (N:Nat) (a:AD):Option Int:=
 cond (decide (0<a.Bf)) (
 some 0) (
 some 2)
def Db (N:Nat) (g:AB) (a:AB) (i:Int) (j:Int):Option AB:=
 (Cy N g.B i).bind λb=>
 (Cy N a.A j).bind λc=>
 (DV N (⟨b,(min a.A c)⟩:AB)).bind λd=>
 some d
def DF (N:Nat) (p0_w:AK) (c:Int) (a:(List AD)) (d:AB) (g:AB) (i:Int→Int→Option AB):Nat→Int→Int→Int→Option AB
 |0,_,_,_=>none
 |y+1,j,k,b=>
 cond (decide (b<(↑a.length:Int))) (
 (ix a b).bind λu=>
 (Cd N p0_w c u d.B).bind λv=>
 (ix a b).bind λw=>
 (Cd N p0_w c w g.A).bind λx=>
 (DG N j v.A).bind λl=>
 (ix a b).bind λm=>
 (ID N m).bind λn=>
 (DG N l n).bind λo=>
 (DG N k x.B).bind λp=>
 (ix a b).bind λq=>
 (ID N q).bind λs=>
 (Cy N p s).bind λt=>
 DF N p0_w c a d g i y o t (BV (b+1))) (
 i j k)
def GK (N:Nat) (p0_w:AK) (a:Int) (b:(List AD)):Option AB:=
 (ix p0_w.Ai a).bind λi=>
 (ix p0_w.Ai a).bind λc=>
 (ix p0_w.Ai a).bind λg=>
 (ix p0_w.Ai a).bind λd=>
 DF N p0_w a b c d (Db N c d) N 0 0 0
def GC (N:Nat) (p0_w:AK) (a:Int) (c:EW) (b:AB) (d:AB) (g:List AY):Option (AB×(List AB)×(List AY)):=
 (ix p0_w.L.G a).bind λi=>
 (ix p0_w.L.G a).bind λj=>
 some (d,(upd p0_w.L.G a (⟨(min b.B c.Ah),(min b.A c.Ah)⟩:AB)),g)
def C7 (N:Nat) (p0_w:AK) (c:Int) (j:(List AD)) (a:EW) (g:List AY):Option (AB×(List AB)×(List AY)):=
 (GK N ({ p0_w with L:=({ p0_w.L with E:=g}:AX)}:AK) c j).bind λb=>
 (DV N (⟨(BV (b.B-a.Ah)),(BV (b.A-a.Ah))⟩:AB)).bind λd=>
 cond (decide (0≤a.Ao)) (
 (H7 N g (BV ((BV (p0_w.L.H+1))+a.Y)) a.Ao d).bind λi=>
 GC N p0_w c a b d i) (
 GC N p0_w c a b d g)
def GD (N:Nat) (a:Int) (b:Int→(List AY)→Option (AB×(List AB)×(List AY))) (c:List AY):Option (AB×(List AB)×(List AY)):=
 b (BV (a+1)) c
def CP (N:Nat) (p0_w:AK) (a:Int) (b:(List AD)) (g:(List AY)→Option (AB×(List AB)×(List AY))):Nat→Int→(List AY)→Option (AB×(List AB)×(List AY))
 |0,_,_=>none
 |v+1,c,d=>
 cond (decide (c<(↑b.length:Int))) (
 (pL b c).bind λu=>
 (GK N ({ p0_w with L:=({ p0_w.L with E:=d}:AX)}:AK) a u).bind λi=>
 (ix b c).bind λj=>
 (ix p0_w.Ai a).bind λw=>
 (ix p0_w.Ai a).bind λk=>
 (Cd N ({ p0_w with L:=({ p0_w.L with E:=d}:AX)}:AK) a j k.B).bind λl=>
 (ix b c).bind λm=>
 (ix p0_w.Ai a).bind λx=>
 (ix p0_w.Ai a).bind λn=>
 (Cd N ({ p0_w with L:=({ p0_w.L with E:=d}:AX)}:AK) a m n.A).bind λo=>
 (ix b c).bind λp=>
 cond (decide (0≤p.C)) (
 (ix b c).bind λq=>
 (ix b c).bind λs=>
 (H7 N d (BV ((BV (p0_w.L.H+1))+q.Y)) s.C (⟨(min l.B i.B),(min o.A i.A)⟩:AB)).bind λt=>
 GD N c (CP N p0_w a b g v) t) (
 GD N c (CP N p0_w a b g v) d)) (
 g d)
def HE (N:Nat) (p0_w:AK) (a:Int) (b:Cn):Option (AB×(List AB)×(List AY)):=
 (Fg N p0_w a b).bind λc=>
 (ix p0_w.J.F a).bind λd=>
 CP N p0_w a c (C7 N p0_w a c d) N 0 p0_w.L.E
def Ec (N:Nat) (b:AX) (a:(List AY)×(List AF)×(List AB)) (c:List AB) (d:List AB) (g:List AY):Option (AX×(List AB)×(List AB)):=
 some ((⟨(BV (b.H+1)),d,g,a.2.1⟩:AX),a.2.2,c)
def D5 (N:Nat) (a:AH) (j:AX) (b:Cn) (c:(List AY)×(List AF)×(List AB)) (m:(List AB)→(List AB)→(List AY)→Option (AX×(List AB)×(List AB))):Nat→(List AB)→Int→(List AB)→(List AY)→Option (AX×(List AB)×(List AB))
 |0,_,_,_,_=>none
 |n+1,d,g,k,l=>
 cond (decide (g<(↑a.F.length:Int))) (
 (HE N (⟨a,(⟨j.H,k,l,c.2.1⟩:AX),c.2.2⟩:AK) g b).bind λi=>
 chk (room (d.length+1) 16) <|
 D5 N a j b c m n (d++([i.1]:List AB)) (BV (g+1)) i.2.1 i.2.2) (
 m d k l)
def Jm (N:Nat) (b:AH) (a:AX) (c:Cn) (d:(List Bool)) (g:(List AB)):Option (AX×(List AB)×(List AB)):=
 chk (room (([]:List AB).length+a.G.length) 16) <|
 chk (room (([]:List AF).length+a.D.length) 40) <|
 (HD N (⟨b,(⟨a.H,(([]:List AB)++a.G),a.E,(([]:List AF)++a.D)⟩:AX),([]:List AB)⟩:AK) c d).bind λj=>
 (Ff N (⟨b,(⟨a.H,(([]:List AB)++a.G),a.E,j⟩:AX),([]:List AB)⟩:AK) g).bind λi=>
 D5 N b a c i (Ec N a i) N ([]:List AB) 0 (([]:List AB)++a.G) i.1
def Eo (N:Nat) (c:AH) (d:AX) (g:Cn) (a:(List Bool)) (b:(List AB)) (k:Bool):Option Bool:=
 (JO N c d).bind λl=>
 cond (!l) (
 some k) (
 (Ki N c d g a b).bind λi=>
 (Jm N c d g a b).bind λj=>
 (cond k ((IU N i.1 j.1).bind λm=>
 some m) (some false)).bind λn=>
 (cond n ((Fu N i.2.1 j.2.1).bind λo=>
 some o) (some false)).bind λp=>
 (cond p ((Fu N i.2.2 j.2.2).bind λq=>
 some q) (some false)).bind λs=>
 some s)
def Hm (N:Nat) (a:AH) (g:BQ) (b:AX) (i:Cn) (c:(List Bool)) (d:(List AB)):Option Bool:=
 (Fm N).bind λj=>
 (K7 N a b i).bind λs=>
 (cond ((((!s)||(decide (12<(↑g.E.length:Int))))||(decide (10<(↑c.length:Int))))||(decide (10<(↑d.length:Int)))) (some true) ((KM N a).bind λt=>
 some (!t))).bind λu=>
 cond u (
 some j) (
 (JO N a b).bind λv=>
 (JE N a b).bind λw=>
 (cond (!(v==w)) (some true) ((J7 N b).bind λx=>
 (Jl N b).bind λy=>
 some (decide (x≠y)))).bind λz=>
 cond z (
 some false) (
 (MD N a g).bind λk=>
 cond k (
 (LS N a g).bind λl=>
 (Kd N a g).bind λm=>
 (IU N l m).bind λn=>
 (cond (!n) (some true) ((Lw N a b g).bind λo=>
 (KA N a b g).bind λp=>
 some (!(o==p)))).bind λq=>
 cond q (
 some false) (
 Eo N a b i c d j)) (
 Eo N a b i c d j)))
end Go.Proofs.YtibidnaedddfdaaGreat
