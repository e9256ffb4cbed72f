import Derived.Test.YtibidnaedddfdaaGreatEReps
namespace Go.Proofs.YtibidnaedddfdaaGreat
set_option linter.all false
open Go.RowKit
def Jg (N:Nat) (s:(List AZ)) (i:Int) (l:(List AZ)):Option ((List AZ)):=Yo 32 s i l
def Cq (N:Nat) (a:(List AB)):Option (List AB):=
 chk (room (([]:List AB).length+a.length) 16) <|
 some (([]:List AB)++a)
def Cj (N:Nat) (a:(List AH)):Option (List AH):=
 chk (room (([]:List AH).length+a.length) 40) <|
 some (([]:List AH)++a)
def Hh (N:Nat) (b:Int) (a:Int):Option Bool:=
 some ((decide (0≤b))&&(decide (b<a)))
def FE (N:Nat) (a:Int):Option AB:=
 some (⟨a,a⟩:AB)
def IN (N:Nat) (c:Int) (b:Int) (a:Int):Option Int:=
 cond (decide (c<b)) (
 some b) (
 cond (decide (a<c)) (
 some a) (
 some c))
def LC (N:Nat) (a:Ep) (b:Int):Option Ep:=
 some ({ a with W:=b}:Ep)
def L8 (N:Nat) (c:AO) (b:Ep) (a:Int):Option Ep:=
 cond (decide (c.Y≠0)) (
 (IN N a 0 c.Y).bind λd=>
 LC N b d) (
 LC N b b.W)
def Dq (N:Nat) (b:Int) (a:Int):Option Int:=
 cond ((decide (a<0))&&(decide ((BR (9223372036854775807+a))<b))) (
 some 9223372036854775807) (
 cond ((decide (0<a))&&(decide (b<(BR ((-9223372036854775808)+a))))) (
 some (-9223372036854775808)) (
 some (BR (b-a))))
def Es (N:Nat) (b:Int) (a:Int):Option Int:=
 cond ((decide (0<a))&&(decide ((BR (9223372036854775807-a))<b))) (
 some 9223372036854775807) (
 cond ((decide (a<0))&&(decide (b<(BR ((-9223372036854775808)-a))))) (
 some (-9223372036854775808)) (
 some (BR (b+a))))
def MJ (N:Nat) (b:AO) (a:Ep):Option Ep:=
 cond a.Bg (
 some a) (
 (Dq N a.W a.U).bind λc=>
 (Dq N 0 b.An).bind λd=>
 (IN N c d b.An).bind λg=>
 (Es N a.U g).bind λi=>
 some ({ a with U:=i}:Ep))
def IW (N:Nat) (b:AO) (c2_:AH) (a:Int):Option Int:=
 (MJ N b (⟨a,c2_.W,false,false⟩:Ep)).bind λc=>
 some c.U
def KL (N:Nat) (b:AO) (a:AH) (c:Bool):Option AH:=
 cond c (
 (IW N b a a.U.B).bind λd=>
 (IW N b a a.U.A).bind λg=>
 some ({ a with U:=(⟨d,g⟩:AB)}:AH)) (
 (Dq N a.U.B b.An).bind λi=>
 (IN N i 0 b.Y).bind λj=>
 (Es N a.U.A b.An).bind λk=>
 (IN N k 0 b.Y).bind λl=>
 some ({ a with U:=(⟨j,l⟩:AB)}:AH))
def GK (N:Nat) (a:Int) (c:Int→(List AH)→Option (List AH)) (b:List AH):Option (List AH):=
 c (BR (a+1)) b
def CX (N:Nat) (p0_w:BX) (d:BT) (i:(List AH)→Option (List AH)):Nat→Int→(List AH)→Option (List AH)
 |0,_,_=>none
 |o+1,g,c=>
 cond (decide (g<(↑d.Bb.length:Int))) (
 (ix d.Bb g).bind λa=>
 (Hh N a.Z (↑p0_w.b.D.length:Int)).bind λj=>
 cond j (
 (ix c a.Z).bind λp=>
 (ix p0_w.b.D a.Z).bind λk=>
 (ix c a.Z).bind λl=>
 (L8 N k (⟨0,l.W,false,false⟩:Ep) a.W).bind λm=>
 (ix c a.Z).bind λn=>
 GK N g (CX N p0_w d i o) (upd c a.Z ({ n with W:=m.W}))) (
 GK N g (CX N p0_w d i o) c)) (
 i c)
def D5 (N:Nat) (p0_w:BX) (c:(List Bool)):Nat→Int→(List AH)→Option (List AH)
 |0,_,_=>none
 |p+1,a,d=>
 cond (decide (a<(↑p0_w.b.D.length:Int))) (
 (ix p0_w.b.D a).bind λg=>
 (ix d a).bind λm=>
 (ix d a).bind λi=>
 (cond (decide (a<(↑c.length:Int))) ((ix c a).bind λj=>
 some j) (some false)).bind λk=>
 (KL N g i k).bind λl=>
 (ix d a).bind λn=>
 (ix d a).bind λo=>
 D5 N p0_w c p (BR (a+1)) (upd d a l)) (
 some d)
def Cw (N:Nat) (p0_w:BX) (a:(List Bool)) (b:List AH):Option (List AH):=
 D5 N p0_w a N 0 b
def Cx (N:Nat) (p0_w:BX) (b:BT) (a:(List Bool)) (c:List AH):Option (List AH):=
 CX N p0_w b (Cw N p0_w a) N 0 c
def Eb (N:Nat) (a:Int) (b:Int→(List AH)→Option (List AH)) (c:List AH):Option (List AH):=
 b (BR (a+1)) c
def CF (N:Nat) (p0_w:BX) (a:BT) (i:(List AH)→Option (List AH)):Nat→Int→(List AH)→Option (List AH)
 |0,_,_=>none
 |j+1,g,d=>
 cond (decide (g<(↑a.Bc.length:Int))) (
 (ix a.Bc g).bind λc=>
 (Hh N c.Z (↑p0_w.b.D.length:Int)).bind λk=>
 (cond (!k) (some true) ((ix p0_w.b.D c.Z).bind λl=>
 some (decide (l.F≠5)))).bind λm=>
 cond m (
 Eb N g (CF N p0_w a i j) d) (
 cond (decide (c.F=2)) (
 (FE N 1).bind λn=>
 (ix d c.Z).bind λs=>
 (ix d c.Z).bind λo=>
 Eb N g (CF N p0_w a i j) (upd d c.Z ({ o with R:=n}))) (
 cond (decide (c.F=3)) (
 (FE N 0).bind λp=>
 (ix d c.Z).bind λt=>
 (ix d c.Z).bind λq=>
 Eb N g (CF N p0_w a i j) (upd d c.Z ({ q with R:=p}))) (
 Eb N g (CF N p0_w a i j) d)))) (
 i d)
def Hi (N:Nat) (p0_w:BX) (a:BT) (b:(List Bool)):Option (List AH):=
 CF N p0_w a (Cx N p0_w a b) N 0 p0_w.h.D
def Dt (N:Nat) (a:AB):Option Bool:=
 some (decide (a.B≤a.A))
def HI (N:Nat) (a:AB) (b:AB):Option AB:=
 (Es N a.B b.B).bind λc=>
 (Es N a.A b.A).bind λd=>
 some (⟨c,d⟩:AB)
def JU (N:Nat) (a:AB):Option AB:=
 some (⟨(min a.B 1125899906842624),(min a.A 1125899906842624)⟩:AB)
def Km (N:Nat) (a:AO) (b:AB):Option (AB×AO):=
 some (b,a)
def Jw (N:Nat) (a:AB) (b:Int):Option Bool:=
 some ((decide (a.B≤b))&&(decide (b≤a.A)))
def JL {σ:Type}(N:Nat) (a:AB) (c2_:AO) (c:Int→σ→Option (Bool×σ)) (s:σ):Option (Bool×σ):=
 (Dt N a).bind λk=>
 cond (!k) (
 some (true,s)) (
 (c a.B s).bind λd=>
 cond d.1 (
 (c a.A d.2).bind λb=>
 cond b.1 (
 (cond (decide (c2_.Aa<9223372036854775807)) ((Jw N a (BR (c2_.Aa+1))).bind λi=>
 some i) (some false)).bind λj=>
 cond j (
 (c (BR (c2_.Aa+1)) b.2).bind λg=>
 cond g.1 (
 some (true,g.2)) (
 some (false,g.2))) (
 some (true,b.2))) (
 some (false,b.2))) (
 some (false,d.2)))
def IF (N:Nat) (a:Ep) (b:Bool):Option Ep:=
 some ({ a with R:=b}:Ep)
def Jx (N:Nat) (b:AO) (a:Ep) (c:Int):Option Ep:=
 cond (decide (b.F≠3)) (
 some a) (
 cond (decide (b.Ae≤c)) (
 IF N a true) (
 cond (decide (c≤b.Aa)) (
 IF N a false) (
 IF N a a.R)))
def Kk (N:Nat) (a:AB) (b:AB):Option AB:=
 some (⟨(min a.B b.B),(max a.A b.A)⟩:AB)
def EV (N:Nat) (a:Int) (g:Int→Int→Int→Bool→Option (Bool×(Int×Int×Bool))) (b:Int) (c:Int) (d:Bool):Option (Bool×(Int×Int×Bool)):=
 g (BR (a+1)) b c d
def HC (N:Nat) (g:Int) (i:Int) (a:Bool) (j:Int→Int→Bool→Option (Bool×(Int×Int×Bool))) (b:Int):Option (Bool×(Int×Int×Bool)):=
 cond a (
 (FE N b).bind λk=>
 (Kk N (⟨g,i⟩:AB) k).bind λc=>
 j c.B c.A a) (
 (FE N b).bind λd=>
 j d.B d.A true)
def CY (N:Nat) (b:AO) (c:AH) (j:Int):Nat→Int→Int→Int→Bool→Option (Bool×(Int×Int×Bool))
 |0,_,_,_,_=>none
 |m+1,a,d,g,i=>
 cond (decide (a<2)) (
 (Jw N c.R a).bind λk=>
 cond (!k) (
 EV N a (CY N b c j m) d g i) (
 (Jx N b (⟨0,0,false,(decide (a=1))⟩:Ep) j).bind λl=>
 cond l.R (
 HC N d g i (EV N a (CY N b c j m)) 1) (
 HC N d g i (EV N a (CY N b c j m)) 0))) (
 some (true,(d,g,i)))
def GU (N:Nat) (a:AO) (b:AH) (c:Int) (d:Int) (g:Int) (i:Bool):Option (Bool×(Int×Int×Bool)):=
 CY N a b c N 0 d g i
def KQ (N:Nat) (a:AH) (b:Int) (c:Int):Option AH:=
 some ({ a with R:=(⟨b,c⟩:AB)}:AH)
def Jl (N:Nat) (b:AO) (a:AH) (d:AB):Option AH:=
 cond (decide (b.F≠3)) (
 some a) (
 (Km N b d).bind λg=>
 (JL N g.1 g.2 (λj i=>GU N b a j i.1 i.2.1 i.2.2) (0,0,false)).bind λc=>
 cond c.1 (
 cond c.2.2.2 (
 KQ N a c.2.1 c.2.2.1) (
 KQ N a a.R.B a.R.A)) (
 none))
def GE (N:Nat) (a:Int) (d:(List AZ)→Int→(List AB)→Option ((List AZ)×(List AH)×(List AB))) (b:List AZ) (c:List AB):Option ((List AZ)×(List AH)×(List AB)):=
 d b (BR (a+1)) c
def CA (N:Nat) (p0_w:BX) (g:(List AZ)→(List AB)→Option ((List AZ)×(List AH)×(List AB))):Nat→(List AZ)→Int→(List AB)→Option ((List AZ)×(List AH)×(List AB))
 |0,_,_,_=>none
 |k+1,c,d,b=>
 cond (decide (d<(↑p0_w.h.N.length:Int))) (
 (ix p0_w.h.N d).bind λa=>
 cond (decide (a.O≤p0_w.h.I)) (
 (ix b a.C).bind λl=>
 (ix b a.C).bind λi=>
 (HI N i a.K).bind λj=>
 (ix b a.C).bind λm=>
 (ix b a.C).bind λn=>
 GE N d (CA N p0_w g k) c (upd b a.C j)) (
 chk (room (c.length+1) 32) <|
 GE N d (CA N p0_w g k) (c++([a]:List AZ)) b)) (
 g c b)
def CV (N:Nat) (c:List AB) (d:(List AB)→Option ((List AZ)×(List AH)×(List AB))):Nat→Int→(List AB)→Option ((List AZ)×(List AH)×(List AB))
 |0,_,_=>none
 |m+1,a,b=>
 cond (decide (a<(↑c.length:Int))) (
 (ix b a).bind λj=>
 (ix b a).bind λg=>
 (JU N g).bind λi=>
 (ix b a).bind λk=>
 (ix b a).bind λl=>
 CV N c d m (BR (a+1)) (upd b a i)) (
 d b)
def GD (N:Nat) (a:Int) (c:Int→(List AH)→Option ((List AZ)×(List AH)×(List AB))) (b:List AH):Option ((List AZ)×(List AH)×(List AB)):=
 c (BR (a+1)) b
def CU (N:Nat) (p0_w:BX) (i:List AZ) (d:List AB):Nat→Int→(List AH)→Option ((List AZ)×(List AH)×(List AB))
 |0,_,_=>none
 |m+1,a,c=>
 cond (decide (a<(↑p0_w.b.D.length:Int))) (
 (ix p0_w.b.D a).bind λg=>
 cond (decide (g.F=3)) (
 (ix c a).bind λn=>
 (ix c a).bind λj=>
 (ix d g.P).bind λo=>
 (ix d g.P).bind λk=>
 (Jl N g j k).bind λl=>
 (ix c a).bind λp=>
 (ix c a).bind λq=>
 GD N a (CU N p0_w i d m) (upd c a l)) (
 GD N a (CU N p0_w i d m) c)) (
 some (i,c,d))
def CW (N:Nat) (p0_w:BX) (a:List AZ) (b:List AB):Option ((List AZ)×(List AH)×(List AB)):=
 CU N p0_w a b N 0 p0_w.h.D
def CB (N:Nat) (p0_w:BX) (b:List AZ) (a:List AB):Option ((List AZ)×(List AH)×(List AB)):=
 CV N a (CW N p0_w b) N 0 a
def BL (N:Nat) (p0_w:BX) (a:List AB):Option ((List AZ)×(List AH)×(List AB)):=
 CA N p0_w (CB N p0_w) N ([]:List AZ) 0 a
def EK (N:Nat) (a:Int) (b:List AB) (c:Int→(List AB)→Option ((List AZ)×(List AH)×(List AB))) (d:Int) (g:Int):Option ((List AZ)×(List AH)×(List AB)):=
 (ix b a).bind λi=>
 (ix b a).bind λj=>
 c (BR (a+1)) (upd b a (⟨d,g⟩:AB))
def BK (N:Nat) (p0_w:BX) (a:(List AB)) (c:(List AB)→Option ((List AZ)×(List AH)×(List AB))):Nat→Int→(List AB)→Option ((List AZ)×(List AH)×(List AB))
 |0,_,_=>none
 |p+1,b,i=>
 cond (decide (b<(↑p0_w.h.K.length:Int))) (
 (ix p0_w.h.K b).bind λq=>
 (ix p0_w.h.K b).bind λd=>
 (cond (decide (b<(↑a.length:Int))) ((ix a b).bind λj=>
 (Dt N j).bind λk=>
 some k) (some false)).bind λl=>
 (cond l ((ix a b).bind λm=>
 some (decide (0≤m.B))) (some false)).bind λn=>
 cond n (
 (ix a b).bind λo=>
 (HI N d o).bind λg=>
 EK N b i (BK N p0_w a c p) g.B g.A) (
 EK N b i (BK N p0_w a c p) d.B d.A)) (
 c i)
def E8 (N:Nat) (p0_w:BX) (a:(List AB)):Option ((List AZ)×(List AH)×(List AB)):=
 BK N p0_w a (BL N p0_w) N 0 p0_w.peaks
def DH (N:Nat) (a:IL) (b:Int):Option AB:=
 some (⟨0,a.Al⟩:AB)
def Ie (N:Nat) (a:Int) (b:Int):Option (Int×Int):=
 some ((IntKind.wrap .u64 ((IntKind.wrap .u64 ((IntKind.wrap .u64 ((FI .u64 a 32)*(FI .u64 b 32)))+(FI .u64 (IntKind.wrap .u64 ((IntKind.wrap .u64 ((FI .u64 a 32)*(Ja .and .u64 b 4294967295)))+(FI .u64 (IntKind.wrap .u64 ((Ja .and .u64 a 4294967295)*(Ja .and .u64 b 4294967295))) 32))) 32)))+(FI .u64 (IntKind.wrap .u64 ((Ja .and .u64 (IntKind.wrap .u64 ((IntKind.wrap .u64 ((FI .u64 a 32)*(Ja .and .u64 b 4294967295)))+(FI .u64 (IntKind.wrap .u64 ((Ja .and .u64 a 4294967295)*(Ja .and .u64 b 4294967295))) 32))) 4294967295)+(IntKind.wrap .u64 ((Ja .and .u64 a 4294967295)*(FI .u64 b 32))))) 32))),(IntKind.wrap .u64 (a*b)))
def HM (N:Nat) (a:Int) (b:Int):Option Int:=
 (Xs Nf (IntKind.wrap .u8 a)).bind λc=>
 some (BR (b+(BR c)))
def HN (N:Nat) (a:Int) (b:Int):Option Int:=
 cond (decide (256≤a)) (
 HM N (FI .u64 a 8) (BR (b+8))) (
 HM N a b)
def HO (N:Nat) (a:Int) (b:Int):Option Int:=
 cond (decide (65536≤a)) (
 HN N (FI .u64 a 16) (BR (b+16))) (
 HN N a b)
def Jm (N:Nat) (a:Int):Option Int:=
 cond (decide (4294967296≤a)) (
 HO N (FI .u64 a 32) 32) (
 HO N a 0)
def GI (N:Nat) (a:Int):Option Int:=
 (Jm N a).bind λb=>
 some (BR (64-b))
def EZ (N:Nat) (b:Int) (a:Int) (d:Nat) (j:Nat) (g:Int→Option (Int×Int)):Nat→Int→Int→Option (Int×Int)
 |0,_,_=>none
 |k+1,i,c=>
 cond ((decide (4294967296≤c))||(decide ((IntKind.wrap .u64 ((IntKind.wrap .u64 (4294967296*i))+(Ja .and .u64 (En .u64 b j) 4294967295)))<(IntKind.wrap .u64 (c*(Ja .and .u64 (En .u64 a d) 4294967295)))))) (
 cond (decide (4294967296≤(IntKind.wrap .u64 (i+(FI .u64 (En .u64 a d) 32))))) (
 g (IntKind.wrap .u64 (c-1))) (
 EZ N b a d j g k (IntKind.wrap .u64 (i+(FI .u64 (En .u64 a d) 32))) (IntKind.wrap .u64 (c-1)))) (
 g c)
def GJ (N:Nat) (c:Int) (a:Int) (b:Int) (n:Int) (d:Nat) (k:Nat) (l:Nat) (g:Nat) (i:Int) (j:Int):Option (Int×Int):=
 (QZ (IntKind.wrap .u64 n)).bind λm=>
 some ((IntKind.wrap .u64 ((IntKind.wrap .u64 (i*4294967296))+j)),(FI .u64 (IntKind.wrap .u64 ((IntKind.wrap .u64 ((IntKind.wrap .u64 ((IntKind.wrap .u64 ((IntKind.wrap .u64 ((IntKind.wrap .u64 ((Ja .or .u64 (En .u64 c k) (FI .u64 a l))*4294967296))+(FI .u64 (En .u64 a g) 32)))-(IntKind.wrap .u64 (i*(En .u64 b d)))))*4294967296))+(Ja .and .u64 (En .u64 a g) 4294967295)))-(IntKind.wrap .u64 (j*(En .u64 b d))))) m))
def Ea (N:Nat) (c:Int) (a:Int) (b:Int) (m:Int) (d:Nat) (i:Nat) (j:Nat) (g:Nat) (k:Int):Option (Int×Int):=
 (PC .u64 (IntKind.wrap .u64 ((IntKind.wrap .u64 ((IntKind.wrap .u64 ((Ja .or .u64 (En .u64 c i) (FI .u64 a j))*4294967296))+(FI .u64 (En .u64 a g) 32)))-(IntKind.wrap .u64 (k*(En .u64 b d))))) (FI .u64 (En .u64 b d) 32)).bind λl=>
 EZ N a b d g (GJ N c a b m d i j g k) N (IntKind.wrap .u64 ((IntKind.wrap .u64 ((IntKind.wrap .u64 ((IntKind.wrap .u64 ((Ja .or .u64 (En .u64 c i) (FI .u64 a j))*4294967296))+(FI .u64 (En .u64 a g) 32)))-(IntKind.wrap .u64 (k*(En .u64 b d)))))-(IntKind.wrap .u64 (l*(FI .u64 (En .u64 b d) 32))))) l
def D4 (N:Nat) (b:Int) (a:Int) (d:Nat) (j:Nat) (g:Int→Option (Int×Int)):Nat→Int→Int→Option (Int×Int)
 |0,_,_=>none
 |k+1,c,i=>
 cond ((decide (4294967296≤c))||(decide ((IntKind.wrap .u64 ((IntKind.wrap .u64 (4294967296*i))+(FI .u64 (En .u64 b j) 32)))<(IntKind.wrap .u64 (c*(Ja .and .u64 (En .u64 a d) 4294967295)))))) (
 cond (decide (4294967296≤(IntKind.wrap .u64 (i+(FI .u64 (En .u64 a d) 32))))) (
 g (IntKind.wrap .u64 (c-1))) (
 D4 N b a d j g k (IntKind.wrap .u64 (c-1)) (IntKind.wrap .u64 (i+(FI .u64 (En .u64 a d) 32))))) (
 g c)
def Gz (N:Nat) (c:Int) (b:Int) (a:Int):Option (Int×Int):=
 cond (decide (a=0)) (
 none) (
 cond (decide (a≤c)) (
 none) (
 cond (decide (c=0)) (
 (PC .u64 b a).bind λm=>
 (Tm b a).bind λn=>
 some (m,n)) (
 (GI N a).bind λj=>
 (QZ (IntKind.wrap .u64 j)).bind λd=>
 (QZ (IntKind.wrap .u64 j)).bind λg=>
 (QZ (IntKind.wrap .u64 (64-(IntKind.wrap .u64 j)))).bind λi=>
 (QZ (IntKind.wrap .u64 j)).bind λk=>
 (PC .u64 (Ja .or .u64 (En .u64 c g) (FI .u64 b i)) (FI .u64 (En .u64 a d) 32)).bind λl=>
 D4 N b a d k (Ea N c b a j d g i k) N l (IntKind.wrap .u64 ((Ja .or .u64 (En .u64 c g) (FI .u64 b i))-(IntKind.wrap .u64 (l*(FI .u64 (En .u64 a d) 32))))))))
def Ga (N:Nat) (c:Int) (b:Int) (a:Int):Option (Int×Int×Bool):=
 cond ((((((decide (c<0))||(decide (1125899906842624<c)))||(decide (b<0)))||(decide (1125899906842624<b)))||(decide (a<1)))||(decide (1125899906842624<a))) (
 some (0,0,false)) (
 (Ie N (IntKind.wrap .u64 c) (IntKind.wrap .u64 b)).bind λg=>
 cond (decide ((IntKind.wrap .u64 a)≤g.1)) (
 some (0,0,false)) (
 (Gz N g.1 g.2 (IntKind.wrap .u64 a)).bind λd=>
 cond (decide (1125899906842624<d.1)) (
 some (0,0,false)) (
 some ((BR d.1),(BR d.2),true))))
def IT (N:Nat) (c:Int) (a:Int) (b:Int):Option Int:=
 (Ga N c a b).bind λd=>
 cond (!d.2.2) (
 some 0) (
 some d.1)
def MI (N:Nat) (b:AO) (a:Int) (c:Int):Option Int:=
 cond (decide (b.C=(-1))) (
 some a) (
 (IT N c b.Ak b.Af).bind λd=>
 (Dq N a d).bind λg=>
 some (max 0 g))
def HT (N:Nat):Option Bool:=
 some true
def DI (N:Nat) (a:(List AV)) (d:Option Bool):Nat→Int→Option Bool
 |0,_=>none
 |l+1,c=>
 cond (decide (c<(↑a.length:Int))) (
 (ix a c).bind λb=>
 cond ((((decide (b.H<0))||(decide (1125899906842624<b.H)))||(decide (b.L<0)))||(decide (1125899906842624<b.L))) (
 some false) (
 (cond (decide (0<c)) ((ix a (BR (c-1))).bind λg=>
 (cond (decide (b.H≤g.H)) (some true) ((ix a (BR (c-1))).bind λi=>
 some (decide (b.L<i.L)))).bind λj=>
 some j) (some false)).bind λk=>
 cond k (
 some false) (
 DI N a d l (BR (c+1))))) (
 d)
def D6 (N:Nat) (a:(List AV)):Option Bool:=
 cond ((decide ((↑a.length:Int)<1))||(decide (32<(↑a.length:Int)))) (
 some false) (
 DI N a (HT N) N 0)
def J5 (N:Nat) (a:Int):Option Int:=
 some a
def HL (N:Nat) (b:(Int→Option Bool)) (d:Int→Option Int):Nat→Int→Int→Option Int
 |0,_,_=>none
 |i+1,a,c=>
 cond (decide (a<c)) (
 (b (BR (FI .u64 (IntKind.wrap .u64 (BR (a+c))) 1))).bind λg=>
 cond (!g) (
 HL N b d i (BR ((BR (FI .u64 (IntKind.wrap .u64 (BR (a+c))) 1))+1)) c) (
 HL N b d i a (BR (FI .u64 (IntKind.wrap .u64 (BR (a+c))) 1)))) (
 d a)
def LB (N:Nat) (a:Int) (b:(Int→Option Bool)):Option Int:=
 HL N b (J5 N) N 0 a
def Gb (N:Nat) (b:(List AV)) (c2_:Int) (a:Int):Option Bool:=
 (ix b a).bind λc=>
 some (decide (c2_<c.H))
def Fd (N:Nat) (a:(List AV)) (d:Int):Option (Int×Bool):=
 (LB N (↑a.length:Int) (λx=>Gb N a d x)).bind λb=>
 cond (decide (b=0)) (
 (ix a 0).bind λi=>
 some (i.L,false)) (
 (ix a (BR (b-1))).bind λc=>
 cond (decide (b=(↑a.length:Int))) (
 some (c.L,false)) (
 (ix a b).bind λj=>
 (ix a b).bind λk=>
 (Ga N (BR (d-c.H)) (BR (j.L-c.L)) (BR (k.H-c.H))).bind λg=>
 some ((BR (c.L+g.1)),(decide (0<g.2.1)))))
def Kq (N:Nat) (a:(List AV)) (b:Int):Option Int:=
 (D6 N a).bind λc=>
 cond (!c) (
 some 0) (
 (Fd N a b).bind λd=>
 some d.1)
def IU (N:Nat):Option Int:=
 some 0
def GM (N:Nat) (a:AO) (b:Int):Option Int:=
 (Dq N b a.Au).bind λd=>
 (IT N (max 0 d) a.V a.Q).bind λc=>
 some c
def J9 (N:Nat) (a:Bool) (b:Option Int):Option Int:=
 cond (!a) (
 some 0) (
 b)
def J8 (N:Nat) (c:AO) (a:Bool) (b:Int) (d:Option Int):Option Int:=
 cond a (
 (IT N b c.V c.Q).bind λg=>
 some g) (
 d)
def J7 (N:Nat) (b:AO) (a:Int):Option Int:=
 (IT N b.V a b.Y).bind λc=>
 some c
def Ko (N:Nat) (a:AO) (c:Int) (g:(List AV)) (b:Int) (d:Int):Option Int:=
 (MI N a b d).bind λi=>
 (Kq N g i).bind λj=>
 (IT N j c a.Y).bind λk=>
 (Es N k a.Az).bind λl=>
 some l
def JI (N:Nat) (a:AO) (d:Int) (c:Bool) (i:(List AV)) (b:Int) (g:Int):Option Int:=
 cond (decide (a.F=0)) (
 Ko N a d i b g) (
 cond (decide (a.F=2)) (
 J7 N a d) (
 cond (decide (a.F=3)) (
 J8 N a c b (IU N)) (
 cond (decide (a.F=5)) (
 J9 N c (GM N a b)) (
 cond (decide (a.F=1)) (
 GM N a b) (
 IU N)))))
def E4 (N:Nat) (b:AO) (c:AH) (a:AB) (d:AB):Option AB:=
 (JI N b c.U.B (decide (1≤c.R.B)) b.Ac.B a.B d.A).bind λg=>
 (JI N b c.U.A (decide (1≤c.R.A)) b.Ac.A a.A d.B).bind λi=>
 some (⟨g,i⟩:AB)
def DQ (N:Nat) (b:AO) (c2_:AH) (c3_:AB) (a:Int):Option AB:=
 (FE N a).bind λc=>
 (E4 N b c2_ c c3_).bind λd=>
 some d
def Kl (N:Nat) (c:Int) (a:Int) (b:Int):Option Int:=
 (Ga N c a b).bind λd=>
 cond (!d.2.2) (
 some 0) (
 some d.1)
def Kn (N:Nat) (a:AO) (b:Int) (c:Int):Option Int:=
 cond (decide (a.F≠4)) (
 some 0) (
 (Kl N b a.V a.Q).bind λd=>
 (Kl N c a.Ak a.Af).bind λg=>
 some (BR (d-g)))
def JG (N:Nat) (c:AO) (a:AB) (b:AB):Option AB:=
 (Kn N c a.B b.A).bind λd=>
 (Kn N c a.A b.B).bind λg=>
 some (⟨d,g⟩:AB)
def HD (N:Nat) (a:AB):Option AB:=
 some (⟨(max 0 a.B),(max 0 a.A)⟩:AB)
def DP (N:Nat) (b:AO) (c2_:AB) (a:Int):Option AB:=
 (FE N a).bind λg=>
 (JG N b g c2_).bind λc=>
 (HD N c).bind λd=>
 some d
def M5 (N:Nat) (a:AB) (b:AB):Option AB:=
 (Dq N a.B b.A).bind λc=>
 (Dq N a.A b.B).bind λd=>
 some (⟨c,d⟩:AB)
def DO (N:Nat) (b:AO) (c2_:AB) (a:Int):Option AB:=
 (FE N 0).bind λj=>
 (FE N a).bind λc=>
 (JG N b c2_ c).bind λd=>
 (M5 N j d).bind λg=>
 (HD N g).bind λi=>
 some i
def J6 (N:Nat) (a:EU) (b:Int×Int×Bool) (c:Int):Option (Int×Int):=
 cond (decide ((BR (b.2.1+c))<a.Q)) (
 some (b.1,(BR (b.2.1+c)))) (
 some ((BR (b.1+1)),(BR ((BR (b.2.1+c))-a.Q))))
def JH (N:Nat) (a:EU) (d:Int) (b:Int):Option (Int×Int):=
 (Ga N d a.V a.Q).bind λc=>
 cond (!c.2.2) (
 some (0,0)) (
 cond ((decide (0≤b))&&(decide (b<a.Q))) (
 J6 N a c b) (
 J6 N a c 0))
def DG (N:Nat) (b:EU) (a:Int):Option AB:=
 (JH N b a 0).bind λd=>
 (JH N b a (BR (b.Q-1))).bind λc=>
 some (⟨d.1,c.1⟩:AB)
def HS (N:Nat) (b:List AK) (a:AO) (c:AH) (i:(List AK)→Option (List AK)) (d:Int) (g:Int):Option (List AK):=
 chk (room (b.length+1) 32) <|
 i (b++([(⟨a.C,a.X,2,(λx=>DQ N a c (⟨d,g⟩:AB) x)⟩:AK)]:List AK))
def DY (N:Nat) (a:Int) (c:(List AK)→Int→Option (List AK)) (b:List AK):Option (List AK):=
 c b (BR (a+1))
def BY (N:Nat) (p0_w:BX) (d:Int) (i:(List AK)→Option (List AK)):Nat→(List AK)→Int→Option (List AK)
 |0,_,_=>none
 |l+1,g,c=>
 cond (decide (c<(↑p0_w.b.D.length:Int))) (
 (ix p0_w.b.D c).bind λa=>
 cond ((decide (a.P=d))&&(decide (a.F≠4))) (
 (ix p0_w.h.D c).bind λo=>
 (ix p0_w.h.D c).bind λj=>
 cond (decide (a.C≠(-1))) (
 (ix p0_w.peaks a.C).bind λp=>
 (ix p0_w.peaks a.C).bind λk=>
 HS N g a j (DY N c (BY N p0_w d i l)) k.B k.A) (
 HS N g a j (DY N c (BY N p0_w d i l)) 0 0)) (
 cond (decide (a.P=d)) (
 (ix p0_w.peaks a.C).bind λq=>
 (ix p0_w.peaks a.C).bind λm=>
 chk (room (g.length+1) 32) <|
 DY N c (BY N p0_w d i l) (g++([(⟨a.C,a.X,2,(λx=>DP N a m x)⟩:AK)]:List AK))) (
 cond ((decide (a.C=d))&&(decide (a.F=4))) (
 (ix p0_w.peaks a.P).bind λs=>
 (ix p0_w.peaks a.P).bind λn=>
 chk (room (g.length+1) 32) <|
 DY N c (BY N p0_w d i l) (g++([(⟨a.P,a.X,2,(λx=>DO N a n x)⟩:AK)]:List AK))) (
 DY N c (BY N p0_w d i l) g)))) (
 i g)
def HR (N:Nat) (a:List AK):Option (List AK):=
 some a
def CG (N:Nat) (p0_w:BX) (d:Int) (c:List AK):Option (List AK):=
 (ix p0_w.b.E d).bind λa=>
 cond (decide (a.Q≠0)) (
 chk (room (c.length+1) 32) <|
 HR N (c++([(⟨a.Ap,a.X,2,(λx=>DG N a x)⟩:AK)]:List AK))) (
 HR N c)
def B9 (N:Nat) (p0_w:BX) (a:Int) (b:List AK):Option (List AK):=
 BY N p0_w a (CG N p0_w a) N b 0
def GL (N:Nat) (a:Int) (b:(List AK)→Int→Option (List AK)) (c:List AK):Option (List AK):=
 b c (BR (a+1))
def B5 (N:Nat) (p0_w:BX) (c:Int) (a:(List IL)) (i:(List AK)→Option (List AK)):Nat→(List AK)→Int→Option (List AK)
 |0,_,_=>none
 |k+1,j,g=>
 cond (decide (g<(↑a.length:Int))) (
 (ix a g).bind λd=>
 (cond (decide (d.Ah≠c)) (some true) ((Hh N d.Bo (↑p0_w.b.Aq.length:Int)).bind λl=>
 some (!l))).bind λm=>
 cond (m||(decide (d.Al≤0))) (
 GL N g (B5 N p0_w c a i k) j) (
 (cond (decide (d.C≠(-1))) ((Hh N d.C (↑p0_w.b.E.length:Int)).bind λn=>
 (cond (!n) (some true) ((ix p0_w.b.E d.C).bind λo=>
 (ix p0_w.b.E c).bind λp=>
 some (decide (o.Aw≠p.Aw)))).bind λq=>
 some q) (some false)).bind λs=>
 cond s (
 GL N g (B5 N p0_w c a i k) j) (
 chk (room (j.length+1) 32) <|
 GL N g (B5 N p0_w c a i k) (j++([(⟨d.C,0,0,(λx=>DH N d x)⟩:AK)]:List AK))))) (
 i j)
def Hk (N:Nat) (p0_w:BX) (b:Int) (a:(List IL)):Option (List AK):=
 B5 N p0_w b a (B9 N p0_w b) N ([]:List AK) 0
def Fj (N:Nat) (a:AB) (b:Int) (c2_:Int):Option AB:=
 (Dq N a.B b).bind λc=>
 (Dq N a.A c2_).bind λd=>
 some (⟨(max 0 c),(max 0 (min a.A d))⟩:AB)
def A8 (N:Nat) (c:(List AZ)) (a:AZ) (b:((AZ×AZ)→Option Int)) (d:Int):Option (Int×Bool):=
 (cond (decide (d<(↑c.length:Int))) ((ix c d).bind λg=>
 (b (g,a)).bind λi=>
 some (decide (i=0))) (some false)).bind λj=>
 some (d,j)
def AS (N:Nat) (d:(List AZ)) (a:AZ) (b:((AZ×AZ)→Option Int)) (i:Int→Option (Int×Bool)):Nat→Int→Int→Option (Int×Bool)
 |0,_,_=>none
 |l+1,c,g=>
 cond (decide (c<g)) (
 (ix d (BR (FI .u64 (IntKind.wrap .u64 (BR (c+g))) 1))).bind λj=>
 (b (j,a)).bind λk=>
 cond (decide (k<0)) (
 AS N d a b i l (BR ((BR (FI .u64 (IntKind.wrap .u64 (BR (c+g))) 1))+1)) g) (
 AS N d a b i l c (BR (FI .u64 (IntKind.wrap .u64 (BR (c+g))) 1)))) (
 i c)
def A4 (N:Nat) (c:(List AZ)) (a:AZ) (b:((AZ×AZ)→Option Int)):Option (Int×Bool):=
 AS N c a b (A8 N c a b) N 0 (↑c.length:Int)
def KR (N:Nat) (a:Int):Option Bool:=
 some (decide (a≠a))
def If (N:Nat) (a:Int) (b:Int):Option Int:=
 (KR N a).bind λd=>
 (KR N b).bind λc=>
 cond d (
 cond c (
 some 0) (
 some (-1))) (
 cond c (
 some 1) (
 cond (decide (a<b)) (
 some (-1)) (
 cond (decide (b<a)) (
 some 1) (
 some 0))))
def KT (N:Nat):Option Int:=
 some 0
def Jh (N:Nat) (a:(List Int)) (b:Option Int):Nat→Int→Option Int
 |0,_=>none
 |g+1,d=>
 cond (decide (d<(↑a.length:Int))) (
 (ix a d).bind λc=>
 cond (decide (c≠0)) (
 some c) (
 Jh N a b g (BR (d+1)))) (
 b)
def Lh (N:Nat) (a:(List Int)):Option Int:=
 Jh N a (KT N) N 0
def FJ (N:Nat) (a:AZ) (b:AZ):Option Int:=
 (If N a.O b.O).bind λc=>
 (If N a.C b.C).bind λd=>
 (Lh N ([c,d]:List Int)).bind λg=>
 some g
def KK (N:Nat) (a:(List AZ)) (c:Int) (d:Int) (g:AB):Option (List AZ):=
 cond (decide (g.A≤0)) (
 some a) (
 (A4 N a (⟨c,d,(⟨0,0⟩:AB)⟩:AZ) (λx=>FJ N x.1 x.2)).bind λb=>
 cond b.2 (
 (ix a b.1).bind λo=>
 (ix a b.1).bind λi=>
 (HI N i.K g).bind λj=>
 (JU N j).bind λk=>
 (ix a b.1).bind λp=>
 (ix a b.1).bind λl=>
 some (upd a b.1 ({ l with K:=k}))) (
 (JU N g).bind λm=>
 (Jg N a b.1 ([(⟨c,d,m⟩:AZ)]:List AZ)).bind λn=>
 some n))
def HQ (N:Nat) (p0_w:BX) (b:Int) (a:Int) (c:AB):Option (List AZ):=
 cond (decide (b≠(-1))) (
 (KK N p0_w.h.N (BR ((BR (p0_w.h.I+1))+a)) b c).bind λd=>
 some d) (
 some p0_w.h.N)
def Cz (N:Nat) (p0_w:BX) (b:Int) (g:EU) (m:AB) (i:Int) (j:Int) (k:List AZ):Option (AB×(List AB)×(List AZ)):=
 (Fj N m j i).bind λa=>
 (Dq N a.B g.Ai).bind λc=>
 (Dq N a.A g.Ai).bind λd=>
 (HQ N ({ p0_w with h:=({ p0_w.h with N:=k}:BV)}:BX) g.Ap g.X (⟨(max 0 c),(max 0 d)⟩:AB)).bind λl=>
 (ix p0_w.h.K b).bind λn=>
 (ix p0_w.h.K b).bind λo=>
 some ((⟨(max 0 c),(max 0 d)⟩:AB),(upd p0_w.h.K b (⟨(min a.B g.Ai),(min a.A g.Ai)⟩:AB)),l)
def Cy (N:Nat) (p0_w:BX) (a:(List AK)) (i:AB) (n:Int→Int→(List AZ)→Option (AB×(List AB)×(List AZ))):Nat→Int→Int→Int→(List AZ)→Option (AB×(List AB)×(List AZ))
 |0,_,_,_,_=>none
 |u+1,c,d,g,j=>
 cond (decide (c<(↑a.length:Int))) (
 (ix a c).bind λb=>
 (b.asks i.B).bind λk=>
 (b.asks i.A).bind λl=>
 (Fj N i g d).bind λm=>
 (HQ N ({ p0_w with h:=({ p0_w.h with N:=j}:BV)}:BX) b.to_ b.delay (⟨(min k.B m.B),(min l.A m.A)⟩:AB)).bind λo=>
 (Es N k.A b.slack).bind λp=>
 (Es N g p).bind λq=>
 (Dq N l.B b.slack).bind λs=>
 (Es N d s).bind λt=>
 Cy N p0_w a i n u (BR (c+1)) t q o) (
 n d g j)
def Hj (N:Nat) (p0_w:BX) (a:Int) (c:(List AK)):Option (AB×(List AB)×(List AZ)):=
 (ix p0_w.b.E a).bind λg=>
 (ix p0_w.peaks a).bind λi=>
 (ix p0_w.peaks a).bind λd=>
 Cy N p0_w c d (Cz N p0_w a g d) N 0 0 0 p0_w.h.N
def E0 (N:Nat) (b:BV) (a:(List AZ)×(List AH)×(List AB)) (c:List AB) (d:List AB) (g:List AZ):Option (BV×(List AB)×(List AB)):=
 some ((⟨(BR (b.I+1)),d,g,a.2.1⟩:BV),a.2.2,c)
def Ez (N:Nat) (c:AF) (g:BV) (i:BT) (b:(List AZ)×(List AH)×(List AB)) (m:(List AB)→(List AB)→(List AZ)→Option (BV×(List AB)×(List AB))):Nat→Int→(List AB)→(List AB)→(List AZ)→Option (BV×(List AB)×(List AB))
 |0,_,_,_,_=>none
 |q+1,a,d,j,k=>
 cond (decide (a<(↑c.E.length:Int))) (
 (Hk N (⟨c,(⟨g.I,j,k,b.2.1⟩:BV),b.2.2⟩:BX) a i.Ag).bind λn=>
 (Hj N (⟨c,(⟨g.I,j,k,b.2.1⟩:BV),b.2.2⟩:BX) a n).bind λl=>
 (ix d a).bind λo=>
 (ix d a).bind λp=>
 Ez N c g i b m q (BR (a+1)) (upd d a l.1) l.2.1 l.2.2) (
 m d j k)
def Jn (N:Nat) (a:AF) (b:BV) (c:BT) (d:(List Bool)) (g:(List AB)):Option (BV×(List AB)×(List AB)):=
 (Cq N b.K).bind λj=>
 (Cj N b.D).bind λl=>
 chk (Mn (↑a.E.length:Int) (↑a.E.length:Int) 16) <|
 (Hi N (⟨a,(⟨b.I,j,b.N,l⟩:BV),(List.replicate ((↑a.E.length:Int):Int).toNat ((⟨0,0⟩:AB):AB))⟩:BX) c d).bind λk=>
 (E8 N (⟨a,(⟨b.I,j,b.N,k⟩:BV),(List.replicate ((↑a.E.length:Int):Int).toNat ((⟨0,0⟩:AB):AB))⟩:BX) g).bind λi=>
 chk (Mn (↑a.E.length:Int) (↑a.E.length:Int) 16) <|
 Ez N a b c i (E0 N b i) N 0 (List.replicate ((↑a.E.length:Int):Int).toNat ((⟨0,0⟩:AB):AB)) j i.1
def Jv (N:Nat) (b:AB) (a:AB):Option Bool:=
 (Kk N b a).bind λc=>
 some (R6 c.v a.v)
def JM (N:Nat) (b:AO) (a:AH):Option Bool:=
 (Dt N a.U).bind λj=>
 (cond (!j) (some true) ((Jv N a.U (⟨0,b.Y⟩:AB)).bind λk=>
 some (!k))).bind λl=>
 (cond l (some true) ((Jw N (⟨0,b.Y⟩:AB) a.W).bind λm=>
 some (!m))).bind λn=>
 cond n (
 some false) (
 (FE N 0).bind λc=>
 (FE N 1).bind λd=>
 cond ((decide (b.F≠5))&&(decide (b.F≠3))) (
 some (R6 a.R.v c.v)) (
 (cond ((R6 a.R.v c.v)||(R6 a.R.v d.v)) (some true) ((Kk N c d).bind λg=>
 some (R6 a.R.v g.v))).bind λi=>
 some i))
def GW (N:Nat) (d:AF) (b:BV) (g:Option Bool):Nat→Int→Option Bool
 |0,_=>none
 |q+1,c=>
 cond (decide (c<(↑b.N.length:Int))) (
 (ix b.N c).bind λa=>
 (Dt N a.K).bind λi=>
 (cond (!i) (some true) ((Jv N a.K (⟨0,1125899906842624⟩:AB)).bind λj=>
 some (!j))).bind λk=>
 (cond ((k||(decide (a.K.A≤0)))||(decide (a.O<b.I))) (some true) ((Hh N a.C (↑d.E.length:Int)).bind λl=>
 some (!l))).bind λm=>
 cond m (
 some false) (
 (cond (decide (0<c)) ((ix b.N (BR (c-1))).bind λn=>
 (FJ N n a).bind λo=>
 some (decide (0≤o))) (some false)).bind λp=>
 cond p (
 some false) (
 GW N d b g q (BR (c+1))))) (
 g)
def GV (N:Nat) (c:AF) (b:BV) (d:Option Bool):Nat→Int→Option Bool
 |0,_=>none
 |k+1,a=>
 cond (decide (a<(↑b.D.length:Int))) (
 (ix b.D a).bind λg=>
 (ix c.D a).bind λi=>
 (JM N i g).bind λj=>
 cond (!j) (
 some false) (
 GV N c b d k (BR (a+1)))) (
 d)
def HE (N:Nat):Option Bool:=
 some true
def GY (N:Nat) (a:AF) (b:BV):Option Bool:=
 GV N a b (HE N) N 0
def GZ (N:Nat) (a:AF) (b:BV):Option Bool:=
 GW N a b (GY N a b) N 0
def GX (N:Nat) (a:BV) (c:Option Bool):Nat→Int→Option Bool
 |0,_=>none
 |k+1,b=>
 cond (decide (b<(↑a.K.length:Int))) (
 (ix a.K b).bind λd=>
 (Dt N d).bind λg=>
 (cond (!g) (some true) ((Jv N d (⟨0,1125899906842624⟩:AB)).bind λi=>
 some (!i))).bind λj=>
 cond j (
 some false) (
 GX N a c k (BR (b+1)))) (
 c)
def Lg (N:Nat) (b:AF) (a:BV):Option Bool:=
 cond ((((decide (a.I<0))||(decide (16777216<a.I)))||(decide ((↑a.K.length:Int)≠(↑b.E.length:Int))))||(decide ((↑a.D.length:Int)≠(↑b.D.length:Int)))) (
 some false) (
 GX N a (GZ N b a) N 0)
def C8 (N:Nat) (c:Int) (b:Int) (a:Int):Option Bool:=
 some ((decide (b≤c))&&(decide (c≤a)))
def Cr (N:Nat) (a:Int):Option Bool:=
 (C8 N a 0 1125899906842624).bind λb=>
 some b
def FB (N:Nat) (a:AF) (c:Option Bool):Nat→Int→Option Bool
 |0,_=>none
 |i+1,b=>
 cond (decide (b<(↑a.As.length:Int))) (
 (ix a.As b).bind λd=>
 (Cr N d).bind λg=>
 cond (!g) (
 some false) (
 FB N a c i (BR (b+1)))) (
 c)
def Ha (N:Nat):Option Bool:=
 some true
def FD (N:Nat) (a:AF):Option Bool:=
 FB N a (Ha N) N 0
def FC (N:Nat) (a:AF) (d:Option Bool):Nat→Int→Option Bool
 |0,_=>none
 |g+1,c=>
 cond (decide (c<(↑a.M.size:Int))) (
 (Xs a.M c).bind λb=>
 cond ((((decide (b<32))||(decide (126<b)))||(decide (b=34)))||(decide (b=92))) (
 some false) (
 FC N a d g (BR (c+1)))) (
 d)
def Jt (N:Nat) (a:AF):Option Bool:=
 (cond (decide (500<(↑a.M.size:Int))) (some true) ((C8 N (↑a.Aq.length:Int) 1 16).bind λb=>
 some (!b))).bind λc=>
 (cond c (some true) ((C8 N a.S 0 64).bind λd=>
 some (!d))).bind λg=>
 (cond g (some true) ((C8 N (↑a.E.length:Int) 1 64).bind λi=>
 some (!i))).bind λj=>
 (cond ((((((j||(decide (96<(↑a.D.length:Int))))||(decide (40<(↑a.Ad.length:Int))))||(decide (128<(↑a.Ab.length:Int))))||(decide (128<(↑a.Ar.length:Int))))||(decide (40<(↑a.At.length:Int))))||(decide ((↑a.As.length:Int)≠3))) (some true) ((C8 N a.T 0 1099511627776).bind λk=>
 some (!k))).bind λl=>
 cond l (
 some false) (
 FC N a (FD N a) N 0)
def Ij (N:Nat):Option Bool:=
 some true
def G1 (N:Nat) (a:ByteArray) (d:Option Bool):Nat→Int→Option Bool
 |0,_=>none
 |g+1,c=>
 cond (decide (c<(↑a.size:Int))) (
 (Xs a c).bind λb=>
 cond ((((decide (b<97))||(decide (122<b)))&&((decide (b<48))||(decide (57<b))))&&(decide (b≠95))) (
 some false) (
 G1 N a d g (BR (c+1)))) (
 d)
def Kr (N:Nat) (a:ByteArray):Option Bool:=
 (cond (((decide ((↑a.size:Int)<1))||(decide (24<(↑a.size:Int))))||(a==(ByteArray.mk #[111,117,116]))) (some true) ((Xs a 0).bind λb=>
 some (decide (b<97)))).bind λc=>
 (cond c (some true) ((Xs a 0).bind λd=>
 some (decide (122<d)))).bind λg=>
 cond g (
 some false) (
 G1 N a (Ij N) N 1)
def JP (N:Nat) (a:(List (AG×Bool))) (b:ByteArray) (d:ByteArray):Option (Bool×(List (AG×Bool))):=
 (Kr N b).bind λc=>
 cond ((!c)||((Oc (λk:AG=>Value.agg (AG.v k).toArray) a (⟨d,b⟩:AG)).getD false)) (
 some (false,a)) (
 some (true,(Nq (λk:AG=>Value.agg (AG.v k).toArray) a (⟨d,b⟩:AG) true)))
def LD (N:Nat) (a:(List (AG×Bool))) (b:ByteArray) (c:ByteArray):Option (Bool×(List (AG×Bool))):=
 cond (b==(ByteArray.mk #[115,104,101,108,116,101,114])) (
 JP N a c (ByteArray.mk #[116,111,119,110])) (
 JP N a c b)
def Dc (N:Nat) (c2_:(List (AG×Bool))) (c3_:Bool) (a:ByteArray) (b:ByteArray):Option ((List (AG×Bool))×Bool):=
 (LD N c2_ a b).bind λc=>
 some (c.2,(c.1&&c3_))
def EH (N:Nat) (a:AF) (d:Bool→((List (AG×Bool)))→Option Bool):Nat→Int→Bool→((List (AG×Bool)))→Option Bool
 |0,_,_,_=>none
 |k+1,c,g,i=>
 cond (decide (c<(↑a.E.length:Int))) (
 (ix a.E c).bind λj=>
 (Dc N i g (ByteArray.mk #[112,108,97,99,101]) j.M).bind λb=>
 EH N a d k (BR (c+1)) b.2 b.1) (
 d g i)
def EG (N:Nat) (a:AF) (i:Bool→((List (AG×Bool)))→Option Bool):Nat→Int→Bool→((List (AG×Bool)))→Option Bool
 |0,_,_,_=>none
 |k+1,b,c,d=>
 cond (decide (b<(↑a.D.length:Int))) (
 (ix a.D b).bind λj=>
 (Dc N d c (ByteArray.mk #[108,105,110,107]) j.M).bind λg=>
 EG N a i k (BR (b+1)) g.2 g.1) (
 i c d)
def EF (N:Nat) (a:AF) (i:Bool→((List (AG×Bool)))→Option Bool):Nat→Int→Bool→((List (AG×Bool)))→Option Bool
 |0,_,_,_=>none
 |k+1,b,c,d=>
 cond (decide (b<(↑a.Ad.length:Int))) (
 (ix a.Ad b).bind λj=>
 (Dc N d c (ByteArray.mk #[116,111,119,110]) j.M).bind λg=>
 EF N a i k (BR (b+1)) g.2 g.1) (
 i c d)
def EE (N:Nat) (a:AF) (i:Bool→((List (AG×Bool)))→Option Bool):Nat→Int→Bool→((List (AG×Bool)))→Option Bool
 |0,_,_,_=>none
 |k+1,b,c,d=>
 cond (decide (b<(↑a.At.length:Int))) (
 (ix a.At b).bind λj=>
 (Dc N d c (ByteArray.mk #[115,104,101,108,116,101,114]) j.M).bind λg=>
 EE N a i k (BR (b+1)) g.2 g.1) (
 i c d)
def D1 (N:Nat) (a:AF) (c:Bool→((List (AG×Bool)))→Option Bool):Nat→Int→Bool→((List (AG×Bool)))→Option Bool
 |0,_,_,_=>none
 |k+1,b,d,g=>
 cond (decide (b<(↑a.Ab.length:Int))) (
 (ix a.Ab b).bind λj=>
 (Dc N g d (ByteArray.mk #[103,97,117,103,101]) j.M).bind λi=>
 D1 N a c k (BR (b+1)) i.2 i.1) (
 c d g)
def D0 (N:Nat) (a:AF) (c:Bool→Option Bool):Nat→Int→Bool→((List (AG×Bool)))→Option Bool
 |0,_,_,_=>none
 |k+1,b,d,i=>
 cond (decide (b<(↑a.Ar.length:Int))) (
 (ix a.Ar b).bind λj=>
 (Dc N i d (ByteArray.mk #[114,111,97,100]) j.M).bind λg=>
 D0 N a c k (BR (b+1)) g.2 g.1) (
 c d)
def FU (N:Nat) (a:Bool):Option Bool:=
 some a
def FV (N:Nat) (a:AF) (b:Bool) (c:(List (AG×Bool))):Option Bool:=
 D0 N a (FU N) N 0 b c
def Fp (N:Nat) (a:AF) (b:Bool) (c:(List (AG×Bool))):Option Bool:=
 D1 N a (FV N a) N 0 b c
def Fq (N:Nat) (a:AF) (b:Bool) (c:(List (AG×Bool))):Option Bool:=
 EE N a (Fp N a) N 0 b c
def Fs (N:Nat) (a:AF) (b:Bool) (c:(List (AG×Bool))):Option Bool:=
 EF N a (Fq N a) N 0 b c
def Ft (N:Nat) (a:AF) (b:Bool) (c:(List (AG×Bool))):Option Bool:=
 EG N a (Fs N a) N 0 b c
def Fu (N:Nat) (a:AF) (b:Bool) (c:(List (AG×Bool))):Option Bool:=
 EH N a (Ft N a) N 0 b c
def EI (N:Nat) (a:AF) (c:Bool→((List (AG×Bool)))→Option Bool):Nat→Int→Bool→((List (AG×Bool)))→Option Bool
 |0,_,_,_=>none
 |k+1,b,d,g=>
 cond (decide (b<(↑a.Aq.length:Int))) (
 (ix a.Aq b).bind λj=>
 (Dc N g d (ByteArray.mk #[111,119,110,101,114]) j).bind λi=>
 EI N a c k (BR (b+1)) i.2 i.1) (
 c d g)
def KM (N:Nat) (a:AF):Option Bool:=
 EI N a (Fu N a) N 0 true ([]:(List (AG×Bool)))
def IJ (N:Nat) (a:Int) (b:Int):Option Bool:=
 (Cr N a).bind λc=>
 (cond c ((Cr N b).bind λd=>
 some d) (some false)).bind λg=>
 some (g&&((decide (b≠0))||(decide (a=0))))
def Gd (N:Nat) (b:Int) (a:Int):Option Bool:=
 (C8 N b 0 (BR (a-1))).bind λc=>
 some c
def KC (N:Nat) (c:AF) (b:Int) (a:Int):Option Bool:=
 (cond (decide (a=(-1))) (some true) ((Gd N a (↑c.E.length:Int)).bind λd=>
 some (d&&(decide (a≠b))))).bind λg=>
 some g
def Cg (N:Nat) (a:Int):Option Bool:=
 some (decide (a≤1125899906842624))
def Dz (N:Nat) (d:EU) (g:Int→Option Bool):Nat→Int→Int→Option Bool
 |0,_,_=>none
 |j+1,b,a=>
 cond (decide (a<(↑d.Bi.length:Int))) (
 (ix d.Bi a).bind λc=>
 (Cr N c).bind λi=>
 cond (!i) (
 some false) (
 Dz N d g j (BR (b+c)) (BR (a+1)))) (
 g b)
def Dy (N:Nat) (c:AF) (g:EU) (d:Int) (i:Int→Option Bool):Nat→Int→Int→Option Bool
 |0,_,_=>none
 |m+1,j,b=>
 cond (decide (b<(↑g.Am.length:Int))) (
 (ix g.Am b).bind λa=>
 (cond ((decide (a.Bn≤j))||(decide (c.S≤a.Bn))) (some true) ((Cr N a.Bu).bind λk=>
 some (!k))).bind λl=>
 cond l (
 some false) (
 Dy N c g d i m a.Bn (BR (b+1)))) (
 i d)
def FT (N:Nat) (a:AF) (c:EU) (d:Int→Option Bool) (b:Int):Option Bool:=
 Dy N a c b d N (-1) 0
def DF (N:Nat) (a:Int) (b:Int→Int→Option Bool) (c:Int):Option Bool:=
 b c (BR (a+1))
def CJ (N:Nat) (b:AF) (d:Int→Option Bool):Nat→Int→Int→Option Bool
 |0,_,_=>none
 |y+1,g,c=>
 cond (decide (c<(↑b.E.length:Int))) (
 (ix b.E c).bind λa=>
 (C8 N a.F 0 3).bind λj=>
 (cond (!j) (some true) ((C8 N a.Aw 0 2).bind λk=>
 some (!k))).bind λl=>
 (cond l (some true) ((C8 N a.X 0 240).bind λm=>
 some (!m))).bind λn=>
 (cond n (some true) ((Cr N a.Ai).bind λo=>
 some (!o))).bind λp=>
 (cond p (some true) ((Cr N a.Bh).bind λq=>
 some (!q))).bind λs=>
 (cond s (some true) ((D6 N a.Ba).bind λt=>
 some (!t))).bind λu=>
 (cond (u||(decide ((↑a.Bi.length:Int)≠(↑b.Aq.length:Int)))) (some true) ((IJ N a.V a.Q).bind λv=>
 some (!v))).bind λw=>
 (cond w (some true) ((KC N b c a.Ap).bind λi=>
 some (!i))).bind λx=>
 cond x (
 some false) (
 Dz N a (FT N b a (DF N c (CJ N b d y))) N g 0)) (
 d g)
def J1 (N:Nat) (a:AF):Option Bool:=
 CJ N a (Cg N) N 0 0
def EW (N:Nat) (b:(List AV)) (a:(List AV)) (i:Option Bool):Nat→Int→Option Bool
 |0,_=>none
 |j+1,c=>
 cond (decide (c<(↑a.length:Int))) (
 (ix a c).bind λd=>
 (Fd N b d.H).bind λg=>
 cond ((decide (d.L<g.1))||((decide (g.1=d.L))&&g.2)) (
 some false) (
 EW N b a i j (BR (c+1)))) (
 i)
def Gj (N:Nat):Option Bool:=
 some true
def Dg (N:Nat) (a:(List AV)) (b:(List AV)):Option Bool:=
 EW N a b (Gj N) N 0
def D8 (N:Nat) (a:(List AV)) (b:(List AV)) (d:Option Bool):Nat→Int→Option Bool
 |0,_=>none
 |j+1,c=>
 cond (decide (c<(↑a.length:Int))) (
 (ix a c).bind λg=>
 (Fd N b g.H).bind λi=>
 cond (decide (i.1<g.L)) (
 some false) (
 D8 N a b d j (BR (c+1)))) (
 d)
def Fe (N:Nat) (a:(List AV)) (b:(List AV)):Option Bool:=
 (D6 N a).bind λc=>
 (cond (!c) (some true) ((D6 N b).bind λd=>
 some (!d))).bind λg=>
 cond g (
 some false) (
 D8 N a b (Dg N a b) N 0)
def Eh (N:Nat) (a:AO) (b:Bool):Option Bool:=
 cond b (
 (Cr N a.Au).bind λc=>
 (cond c ((Cr N a.V).bind λd=>
 some d) (some false)).bind λg=>
 (cond g ((C8 N a.Q 1 1125899906842624).bind λi=>
 some i) (some false)).bind λj=>
 some j) (
 cond (decide (a.F=2)) (
 (Cr N a.V).bind λk=>
 (cond k ((C8 N a.Y 1 64).bind λl=>
 some l) (some false)).bind λm=>
 (cond m ((C8 N a.An 0 a.Y).bind λn=>
 some n) (some false)).bind λo=>
 some o) (
 cond (decide (a.F=3)) (
 (Cr N a.V).bind λp=>
 (cond p ((C8 N a.Q 1 1125899906842624).bind λq=>
 some q) (some false)).bind λs=>
 (cond s ((Cr N a.Ae).bind λt=>
 some t) (some false)).bind λu=>
 (cond u ((Cr N a.Aa).bind λv=>
 some v) (some false)).bind λw=>
 some (w&&(decide (a.Aa<a.Ae)))) (
 (Cr N a.V).bind λx=>
 (cond x ((C8 N a.Q 1 1125899906842624).bind λy=>
 some y) (some false)).bind λz=>
 (cond z ((IJ N a.Ak a.Af).bind λA=>
 some A) (some false)).bind λB=>
 some (B&&(decide (a.C≠(-1)))))))
def Gy (N:Nat) (a:AO):Option Bool:=
 cond (decide (a.F=0)) (
 (D6 N a.Av).bind λb=>
 (cond b ((D6 N a.Ac.B).bind λc=>
 some c) (some false)).bind λd=>
 (cond d ((D6 N a.Ac.A).bind λg=>
 some g) (some false)).bind λi=>
 (cond i ((Fe N a.Ac.B a.Av).bind λj=>
 some j) (some false)).bind λk=>
 (cond k ((Fe N a.Av a.Ac.A).bind λl=>
 some l) (some false)).bind λm=>
 (cond m ((C8 N a.Y 0 64).bind λn=>
 some n) (some false)).bind λo=>
 (cond o ((C8 N a.An 0 a.Y).bind λp=>
 some p) (some false)).bind λq=>
 (cond q ((Cr N a.Az).bind λs=>
 some s) (some false)).bind λt=>
 (cond t ((IJ N a.Ak a.Af).bind λu=>
 some u) (some false)).bind λv=>
 some (v&&((decide (a.C≠(-1)))||(decide (a.Af=0))))) (
 cond (decide (a.F=1)) (
 Eh N a (decide (a.F=1))) (
 Eh N a (decide (a.F=5))))
def Gx (N:Nat) (a:AO):Option Bool:=
 cond ((!(decide (a.F=0)))&&((((decide (0<(↑a.Av.length:Int)))||(decide (0<(↑a.Ac.B.length:Int))))||(decide (0<(↑a.Ac.A.length:Int))))||(decide (a.Az≠0)))) (
 some false) (
 cond (((!(decide (a.F=0)))&&(decide (a.F≠2)))&&((decide (a.Y≠0))||(decide (a.An≠0)))) (
 some false) (
 cond (((decide (a.F≠1))&&(decide (a.F≠5)))&&(decide (a.Au≠0))) (
 some false) (
 cond (((decide (a.F=0))&&(decide (a.V≠0)))||(((decide (a.F=0))||(decide (a.F=2)))&&(decide (a.Q≠0)))) (
 some false) (
 cond ((decide (a.F≠3))&&((decide (a.Ae≠0))||(decide (a.Aa≠0)))) (
 some false) (
 some (((decide (a.F=0))||(decide (a.F=4)))||((decide (a.Ak=0))&&(decide (a.Af=0)))))))))
def EJ (N:Nat):Option Bool:=
 some true
def DA (N:Nat) (a:AF) (d:Option Bool):Nat→Int→Option Bool
 |0,_=>none
 |t+1,c=>
 cond (decide (c<(↑a.D.length:Int))) (
 (ix a.D c).bind λb=>
 (C8 N b.F 0 5).bind λg=>
 (cond (!g) (some true) ((Gd N b.P (↑a.E.length:Int)).bind λi=>
 some (!i))).bind λj=>
 (cond j (some true) ((KC N a b.P b.C).bind λk=>
 some (!k))).bind λl=>
 (cond l (some true) ((C8 N b.X 0 240).bind λm=>
 some (!m))).bind λn=>
 (cond n (some true) ((Gy N b).bind λo=>
 some (!o))).bind λp=>
 (cond p (some true) ((Gx N b).bind λq=>
 some (!q))).bind λs=>
 cond s (
 some false) (
 DA N a d t (BR (c+1)))) (
 d)
def GP (N:Nat) (a:AF):Option Bool:=
 DA N a (EJ N) N 0
def K1 (N:Nat) (c:AF) (a:Int) (b:Int):Option Bool:=
 cond (decide (b=(-1))) (
 some (decide (a=2))) (
 (ix c.E b).bind λd=>
 some ((decide (d.Aw=a))||(decide (d.Aw=(BR (a+1))))))
def EL (N:Nat) (a:AF) (g:Option Bool):Nat→Int→Option Bool
 |0,_=>none
 |m+1,d=>
 cond (decide (d<(↑a.D.length:Int))) (
 (ix a.D d).bind λb=>
 (ix a.E b.P).bind λc=>
 (K1 N a c.Aw b.C).bind λi=>
 (cond (!i) (some true) ((cond (decide (b.F=4)) ((ix a.E b.C).bind λj=>
 some (decide (j.Aw≠c.Aw))) (some false)).bind λk=>
 some k)).bind λl=>
 cond l (
 some false) (
 EL N a g m (BR (d+1)))) (
 g)
def GH (N:Nat):Option Bool:=
 some true
def EN (N:Nat) (a:AF):Option Bool:=
 EL N a (GH N) N 0
def EM (N:Nat) (a:AF) (c:Option Bool):Nat→Int→Option Bool
 |0,_=>none
 |i+1,b=>
 cond (decide (b<(↑a.E.length:Int))) (
 (ix a.E b).bind λd=>
 (K1 N a d.Aw d.Ap).bind λg=>
 cond (!g) (
 some false) (
 EM N a c i (BR (b+1)))) (
 c)
def Ia (N:Nat) (a:AF):Option Bool:=
 EM N a (EN N a) N 0
def JO (N:Nat) (a:Int):Option Int:=
 some (BR a)
def E6 (N:Nat) (b:Int) (a:Int):Option Int:=
 cond (decide (a=0)) (
 some 0) (
 cond (decide (a<b)) (
 some 1099511627777) (
 (Ie N (IntKind.wrap .u64 b) 1099511627776).bind λd=>
 (Gz N d.1 d.2 (IntKind.wrap .u64 a)).bind λc=>
 cond (decide (c.2≠0)) (
 JO N (IntKind.wrap .u64 (c.1+1))) (
 JO N c.1)))
def Cn (N:Nat) (a:Int):Option Int:=
 some a
def Cm (N:Nat) (a:(List AV)) (c:Int→Option Int):Nat→Int→Int→Option Int
 |0,_,_=>none
 |m+1,d,b=>
 cond (decide (b<(↑a.length:Int))) (
 (ix a b).bind λg=>
 (ix a (BR (b-1))).bind λi=>
 (ix a b).bind λj=>
 (ix a (BR (b-1))).bind λk=>
 (E6 N (BR (g.L-i.L)) (BR (j.H-k.H))).bind λl=>
 Cm N a c m (max d l) (BR (b+1))) (
 c d)
def DJ (N:Nat) (a:Int) (b:Int→Int→Option Int) (c:Int):Option Int:=
 b c (BR (a+1))
def CM (N:Nat) (a:(List (List AV))) (c:Int→Option Int):Nat→Int→Int→Option Int
 |0,_,_=>none
 |i+1,g,b=>
 cond (decide (b<(↑a.length:Int))) (
 (ix a b).bind λd=>
 Cm N d (DJ N b (CM N a c i)) N g 1) (
 c g)
def Gp (N:Nat) (a:(List (List AV))):Option Int:=
 CM N a (Cn N) N 0 0
def CH (N:Nat) (b:Int) (c:Int→(List Int)→Option Bool) (a:List Int):Option Bool:=
 c (BR (b+1)) a
def DX (N:Nat) (b:List Int) (a:AO) (g:(List Int)→Option Bool) (i:Bool):Option Bool:=
 cond i (
 (ix b a.P).bind λn=>
 (ix b a.P).bind λj=>
 (E6 N a.V a.Q).bind λk=>
 (ix b a.P).bind λo=>
 (ix b a.P).bind λp=>
 g (upd b a.P (BR (j+k)))) (
 cond (decide (a.F=4)) (
 (ix b a.P).bind λq=>
 (ix b a.P).bind λc=>
 (E6 N a.V a.Q).bind λd=>
 (ix b a.P).bind λs=>
 (ix b a.P).bind λt=>
 (ix (upd b a.P (BR (c+(BR (2*d))))) a.C).bind λu=>
 (ix (upd b a.P (BR (c+(BR (2*d))))) a.C).bind λl=>
 (E6 N a.Ak a.Af).bind λm=>
 (ix (upd b a.P (BR (c+(BR (2*d))))) a.C).bind λv=>
 (ix (upd b a.P (BR (c+(BR (2*d))))) a.C).bind λw=>
 g (upd (upd b a.P (BR (c+(BR (2*d))))) a.C (BR (l+(BR (2*m)))))) (
 g b))
def I9 (N:Nat) (b:Bool→Option Bool) (a:Bool):Option Bool:=
 b a
def BP (N:Nat) (c:AF) (j:(List Int)→Option Bool):Nat→Int→(List Int)→Option Bool
 |0,_,_=>none
 |k+1,i,b=>
 cond (decide (i<(↑c.D.length:Int))) (
 (ix c.D i).bind λa=>
 cond (decide (a.F=0)) (
 (ix b a.P).bind λn=>
 (ix b a.P).bind λd=>
 (Gp N ([a.Av,a.Ac.B,a.Ac.A]:List (List AV))).bind λg=>
 (ix b a.P).bind λo=>
 (ix b a.P).bind λp=>
 cond (decide (a.C≠(-1))) (
 (ix (upd b a.P (BR (d+g))) a.C).bind λq=>
 (ix (upd b a.P (BR (d+g))) a.C).bind λl=>
 (E6 N a.Ak a.Af).bind λm=>
 (ix (upd b a.P (BR (d+g))) a.C).bind λs=>
 (ix (upd b a.P (BR (d+g))) a.C).bind λt=>
 CH N i (BP N c j k) (upd (upd b a.P (BR (d+g))) a.C (BR (l+m)))) (
 CH N i (BP N c j k) (upd b a.P (BR (d+g))))) (
 cond (decide (a.F=1)) (
 DX N b a (CH N i (BP N c j k)) (decide (a.F=1))) (
 cond (decide (a.F=5)) (
 I9 N (DX N b a (CH N i (BP N c j k))) (decide (a.F=5))) (
 I9 N (DX N b a (CH N i (BP N c j k))) (decide (a.F=3)))))) (
 j b)
def Ct (N:Nat) (b:List Int) (c:Option Bool):Nat→Int→Option Bool
 |0,_=>none
 |i+1,a=>
 cond (decide (a<(↑b.length:Int))) (
 (ix b a).bind λg=>
 (ix b a).bind λd=>
 cond (decide (1099511627776<d)) (
 some false) (
 Ct N b c i (BR (a+1)))) (
 c)
def Dx (N:Nat):Option Bool:=
 some true
def CI (N:Nat) (a:List Int):Option Bool:=
 Ct N a (Dx N) N 0
def Cf (N:Nat) (a:AF) (b:List Int):Option Bool:=
 BP N a (CI N) N 0 b
def Cu (N:Nat) (b:AF) (d:(List Int)→Option Bool):Nat→Int→(List Int)→Option Bool
 |0,_,_=>none
 |j+1,a,c=>
 cond (decide (a<(↑b.E.length:Int))) (
 (ix b.E a).bind λg=>
 (E6 N g.V g.Q).bind λi=>
 (ix c a).bind λk=>
 (ix c a).bind λl=>
 Cu N b d j (BR (a+1)) (upd c a i)) (
 d c)
def Fl (N:Nat) (a:AF):Option Bool:=
 chk (Mn (↑a.E.length:Int) (↑a.E.length:Int) 8) <|
 Cu N a (Cf N a) N 0 (List.replicate ((↑a.E.length:Int):Int).toNat (0:Int))
def Ev (N:Nat) (a:AF) (c:Option Bool):Nat→Int→Option Bool
 |0,_=>none
 |i+1,b=>
 cond (decide (b<(↑a.At.length:Int))) (
 (ix a.At b).bind λd=>
 (C8 N d.As 0 1073741824).bind λg=>
 cond (!g) (
 some false) (
 Ev N a c i (BR (b+1)))) (
 c)
def G6 (N:Nat):Option Bool:=
 some true
def Ex (N:Nat) (a:AF):Option Bool:=
 Ev N a (G6 N) N 0
def Ew (N:Nat) (a:AF) (d:Option Bool):Nat→Int→Option Bool
 |0,_=>none
 |t+1,c=>
 cond (decide (c<(↑a.Ad.length:Int))) (
 (ix a.Ad c).bind λb=>
 (Gd N b.Ah (↑a.E.length:Int)).bind λg=>
 (cond (!g) (some true) ((Cr N b.Bd).bind λi=>
 some (!i))).bind λj=>
 (cond j (some true) ((C8 N b.Bf 0 24).bind λk=>
 some (!k))).bind λl=>
 (cond l (some true) ((C8 N b.Bj 0 1073741824).bind λm=>
 some (!m))).bind λn=>
 (cond n (some true) ((Cr N b.Be).bind λo=>
 some (!o))).bind λp=>
 (cond p (some true) ((C8 N b.Ay 0 128).bind λq=>
 some (!q))).bind λs=>
 cond s (
 some false) (
 Ew N a d t (BR (c+1)))) (
 d)
def JX (N:Nat) (a:AF):Option Bool:=
 Ew N a (Ex N a) N 0
def Gq (N:Nat):Option Bool:=
 some true
def Eg (N:Nat) (a:AF) (d:Option Bool):Nat→Int→Option Bool
 |0,_=>none
 |o+1,c=>
 cond (decide (c<(↑a.Ab.length:Int))) (
 (ix a.Ab c).bind λb=>
 (C8 N b.F 0 2).bind λg=>
 (cond (!g) (some true) ((C8 N b.T 0 1099511627776).bind λi=>
 some (!i))).bind λj=>
 (cond j (some true) ((C8 N b.Bt 0 1440).bind λk=>
 some (!k))).bind λl=>
 cond l (
 some false) (
 (ix ([(↑a.E.length:Int),a.S,(↑a.D.length:Int)]:List Int) b.F).bind λm=>
 (Gd N b.W m).bind λn=>
 cond (!n) (
 some false) (
 Eg N a d o (BR (c+1))))) (
 d)
def Iw (N:Nat) (a:AF):Option Bool:=
 Eg N a (Gq N) N 0
def G7 (N:Nat):Option Bool:=
 some true
def Ey (N:Nat) (a:AF) (d:Option Bool):Nat→Int→Option Bool
 |0,_=>none
 |u+1,c=>
 cond (decide (c<(↑a.Ar.length:Int))) (
 (ix a.Ar c).bind λb=>
 (Gd N b.P (↑a.Ad.length:Int)).bind λg=>
 (cond (!g) (some true) ((Gd N b.C (BR ((↑a.Ad.length:Int)+(↑a.At.length:Int)))).bind λi=>
 some (!i))).bind λj=>
 (cond (j||(decide (b.P=b.C))) (some true) ((C8 N b.Bv 1 24).bind λk=>
 some (!k))).bind λl=>
 (cond l (some true) ((C8 N b.Bw 0 1073741824).bind λm=>
 some (!m))).bind λn=>
 (cond n (some true) ((Cr N b.Bs).bind λo=>
 some (!o))).bind λp=>
 cond p (
 some false) (
 (cond ((decide (b.Br=(-1)))&&(decide (b.Bs≠0))) (some true) ((cond (decide (b.Br≠(-1))) ((Gd N b.Br (↑a.E.length:Int)).bind λq=>
 some (!q)) (some false)).bind λs=>
 some s)).bind λt=>
 cond t (
 some false) (
 Ey N a d u (BR (c+1))))) (
 d)
def JY (N:Nat) (a:AF):Option Bool:=
 Ey N a (G7 N) N 0
def Jy (N:Nat) (a:AF):Option Bool:=
 (Jt N a).bind λv=>
 (cond v ((KM N a).bind λb=>
 some b) (some false)).bind λc=>
 (cond c ((J1 N a).bind λd=>
 some d) (some false)).bind λg=>
 (cond g ((GP N a).bind λi=>
 some i) (some false)).bind λj=>
 (cond j ((Ia N a).bind λk=>
 some k) (some false)).bind λl=>
 (cond l ((Fl N a).bind λm=>
 some m) (some false)).bind λn=>
 (cond n ((JX N a).bind λo=>
 some o) (some false)).bind λp=>
 (cond p ((Iw N a).bind λq=>
 some q) (some false)).bind λs=>
 (cond s ((JY N a).bind λt=>
 some t) (some false)).bind λu=>
 some u
def HW (N:Nat) (a:Int) (b:Int):Option Bool:=
 some ((decide (0≤a))&&(decide (a<b)))
def DE (N:Nat) (b:Int) (a:Int):Option Int:=
 cond ((decide (a<0))&&(decide ((BR (9223372036854775807+a))<b))) (
 some 9223372036854775807) (
 cond ((decide (0<a))&&(decide (b<(BR ((-9223372036854775808)+a))))) (
 some (-9223372036854775808)) (
 some (BR (b-a))))
def Ef (N:Nat) (b:Int) (a:Int):Option Int:=
 cond ((decide (0<a))&&(decide ((BR (9223372036854775807-a))<b))) (
 some 9223372036854775807) (
 cond ((decide (a<0))&&(decide (b<(BR ((-9223372036854775808)-a))))) (
 some (-9223372036854775808)) (
 some (BR (b+a))))
def E5 (N:Nat) (a:Int):Option AB:=
 some (⟨a,a⟩:AB)
def G0 (N:Nat) (a:AB) (b:AB):Option AB:=
 (Ef N a.B b.B).bind λc=>
 (Ef N a.A b.A).bind λd=>
 some (⟨c,d⟩:AB)
def Fo (N:Nat) (a:AB):Option AB:=
 some (⟨(min a.B 1125899906842624),(min a.A 1125899906842624)⟩:AB)
def GN (N:Nat) (a:List AZ):Option (List AZ):=
 some a
def Db (N:Nat) (a:Int) (b:Int) (d:AB) (c:List AZ) (i:Bool):Option (List AZ):=
 cond (!i) (
 (Fo N d).bind λg=>
 chk (room (c.length+1) 32) <|
 GN N (c++([(⟨a,b,g⟩:AZ)]:List AZ))) (
 GN N c)
def IY (N:Nat) (c:Int) (d:AZ) (g:Int) (i:Int) (j:(List AZ)→Bool→Int→Option (List AZ)) (a:List AZ) (b:Bool):Option (List AZ):=
 chk (room (a.length+1) 32) <|
 j (a++([({ d with K:=(⟨g,i⟩:AB)}:AZ)]:List AZ)) b (BR (c+1))
def IZ (N:Nat) (a:Int) (b:Int) (g:AB) (d:List AZ) (i:Int) (c:AZ) (j:(List AZ)→Bool→Int→Option (List AZ)) (k:Bool) (l:Int) (m:Int):Option (List AZ):=
 cond ((!k)&&((decide (a<c.O))||((decide (c.O=a))&&(decide (b<c.C))))) (
 (Fo N g).bind λn=>
 chk (room (d.length+1) 32) <|
 IY N i c l m j (d++([(⟨a,b,n⟩:AZ)]:List AZ)) true) (
 IY N i c l m j d k)
def Da (N:Nat) (c:(List AZ)) (a:Int) (b:Int) (d:AB) (j:(List AZ)→Bool→Option (List AZ)):Nat→(List AZ)→Bool→Int→Option (List AZ)
 |0,_,_,_=>none
 |o+1,k,l,i=>
 cond (decide (i<(↑c.length:Int))) (
 (ix c i).bind λp=>
 (ix c i).bind λg=>
 cond ((decide (g.O=a))&&(decide (g.C=b))) (
 (G0 N g.K d).bind λn=>
 (Fo N n).bind λm=>
 IZ N a b d k i g (Da N c a b d j o) true m.B m.A) (
 IZ N a b d k i g (Da N c a b d j o) l g.K.B g.K.A)) (
 j k l)
def Ih (N:Nat) (d:(List AZ)) (a:Int) (b:Int) (c:AB):Option (List AZ):=
 cond (decide (c.A≤0)) (
 some d) (
 Da N d a b c (Db N a b c) N ([]:List AZ) false 0)
def Gw (N:Nat) (c:Int) (b:Int) (a:Int):Option Int:=
 cond (decide (c<b)) (
 some b) (
 cond (decide (a<c)) (
 some a) (
 some c))
def Jq (N:Nat) (a:Ep) (b:Int):Option Ep:=
 some ({ a with W:=b}:Ep)
def Kc (N:Nat) (c:AO) (b:Ep) (a:Int):Option Ep:=
 cond (decide (c.Y≠0)) (
 (Gw N a 0 c.Y).bind λd=>
 Jq N b d) (
 Jq N b b.W)
def HX (N:Nat) (c:Int) (b:Int) (a:Int):Option Int:=
 (DE N b c).bind λg=>
 (DE N 0 a).bind λi=>
 (Gw N g i a).bind λj=>
 (Ef N c j).bind λd=>
 some d
def It (N:Nat) (b:AO) (a:AH) (c:Bool):Option AH:=
 cond c (
 (HX N a.U.B a.W b.An).bind λd=>
 (HX N a.U.A a.W b.An).bind λg=>
 some ({ a with U:=(⟨d,g⟩:AB)}:AH)) (
 (DE N a.U.B b.An).bind λi=>
 (Gw N i 0 b.Y).bind λj=>
 (Ef N a.U.A b.An).bind λk=>
 (Gw N k 0 b.Y).bind λl=>
 some ({ a with U:=(⟨j,l⟩:AB)}:AH))
def F4 (N:Nat) (a:Int) (c:Int→(List AH)→Option (List AH)) (b:List AH):Option (List AH):=
 c (BR (a+1)) b
def C4 (N:Nat) (p0_w:AJ) (a:BT) (g:(List AH)→Option (List AH)):Nat→Int→(List AH)→Option (List AH)
 |0,_,_=>none
 |o+1,d,b=>
 cond (decide (d<(↑a.Bb.length:Int))) (
 (ix a.Bb d).bind λc=>
 (HW N c.Z (↑p0_w.G.D.length:Int)).bind λi=>
 cond i (
 (ix p0_w.G.D c.Z).bind λj=>
 (ix b c.Z).bind λp=>
 (ix b c.Z).bind λk=>
 (ix a.Bb d).bind λl=>
 (Kc N j (⟨0,k.W,false,false⟩:Ep) l.W).bind λm=>
 (ix b c.Z).bind λq=>
 (ix b c.Z).bind λn=>
 F4 N d (C4 N p0_w a g o) (upd b c.Z ({ n with W:=m.W}))) (
 F4 N d (C4 N p0_w a g o) b)) (
 g b)
def F3 (N:Nat) (p0_w:AJ) (a:Int) (b:List AH) (j:Int→(List AH)→Option (List AH)) (c:Bool):Option (List AH):=
 (ix p0_w.G.D a).bind λd=>
 (ix b a).bind λk=>
 (ix b a).bind λg=>
 (It N d g c).bind λi=>
 (ix b a).bind λl=>
 (ix b a).bind λm=>
 j (BR (a+1)) (upd b a i)
def C3 (N:Nat) (p0_w:AJ) (a:(List Bool)):Nat→Int→(List AH)→Option (List AH)
 |0,_,_=>none
 |g+1,b,c=>
 cond (decide (b<(↑p0_w.G.D.length:Int))) (
 cond (decide (b<(↑a.length:Int))) (
 (ix a b).bind λd=>
 F3 N p0_w b c (C3 N p0_w a g) d) (
 F3 N p0_w b c (C3 N p0_w a g) false)) (
 some c)
def Ek (N:Nat) (p0_w:AJ) (a:(List Bool)) (b:List AH):Option (List AH):=
 C3 N p0_w a N 0 b
def Dw (N:Nat) (p0_w:AJ) (b:BT) (a:(List Bool)) (c:List AH):Option (List AH):=
 C4 N p0_w b (Ek N p0_w a) N 0 c
def Dv (N:Nat) (a:Int) (b:Int→(List AH)→Option (List AH)) (c:List AH):Option (List AH):=
 b (BR (a+1)) c
def F5 (N:Nat) (p0_w:AJ) (c:BT) (k:Int) (a:KF) (d:(List AH)→Option (List AH)) (b:List AH):Option (List AH):=
 (ix p0_w.G.D a.Z).bind λl=>
 (cond (decide (l.F=5)) ((ix c.Bc k).bind λg=>
 some (decide (g.F=3))) (some false)).bind λm=>
 cond m (
 (E5 N 0).bind λi=>
 (ix b a.Z).bind λn=>
 (ix b a.Z).bind λj=>
 d (upd b a.Z ({ j with R:=i}))) (
 d b)
def CP (N:Nat) (p0_w:AJ) (a:BT) (g:(List AH)→Option (List AH)):Nat→Int→(List AH)→Option (List AH)
 |0,_,_=>none
 |i+1,b,d=>
 cond (decide (b<(↑a.Bc.length:Int))) (
 (ix a.Bc b).bind λc=>
 (HW N c.Z (↑p0_w.G.D.length:Int)).bind λj=>
 cond (!j) (
 Dv N b (CP N p0_w a g i) d) (
 (ix p0_w.G.D c.Z).bind λk=>
 (cond (decide (k.F=5)) ((ix a.Bc b).bind λl=>
 some (decide (l.F=2))) (some false)).bind λm=>
 cond m (
 (E5 N 1).bind λn=>
 (ix d c.Z).bind λp=>
 (ix d c.Z).bind λo=>
 F5 N p0_w a b c (Dv N b (CP N p0_w a g i)) (upd d c.Z ({ o with R:=n}))) (
 F5 N p0_w a b c (Dv N b (CP N p0_w a g i)) d))) (
 g d)
def G8 (N:Nat) (p0_w:AJ) (a:BT) (b:(List Bool)):Option (List AH):=
 CP N p0_w a (Dw N p0_w a b) N 0 p0_w.J.D
def Jp (N:Nat) (a:AO) (b:AB):Option Bool:=
 some (decide ((max b.B (BR (a.Aa+1)))≤(min b.A (BR (a.Ae-1)))))
def FL (N:Nat) (a:AH) (b:Int) (c:Int):Option AH:=
 some ({ a with R:=(⟨b,c⟩:AB)}:AH)
def Ho (N:Nat) (c:Int→Int→Option AH) (a:Int) (b:Int):Option AH:=
 c a b
def H0 (N:Nat) (b:AO) (a:AH) (c:AB):Option AH:=
 cond ((decide (b.F≠3))||(decide (c.A<c.B))) (
 some a) (
 cond ((!((decide (a.R.B≤0))&&(decide (0≤a.R.A))))&&(!((decide (a.R.B≤1))&&(decide (1≤a.R.A))))) (
 some a) (
 (cond (decide (b.Aa<b.Ae)) ((Jp N b c).bind λg=>
 some g) (some false)).bind λd=>
 cond (((decide (b.Ae≤c.A))||(d&&((decide (a.R.B≤1))&&(decide (1≤a.R.A)))))&&(((decide (c.B≤b.Aa))&&(decide (c.B<b.Ae)))||(d&&((decide (a.R.B≤0))&&(decide (0≤a.R.A)))))) (
 FL N a 0 1) (
 cond ((decide (b.Ae≤c.A))||(d&&((decide (a.R.B≤1))&&(decide (1≤a.R.A))))) (
 Ho N (FL N a) 1 1) (
 Ho N (FL N a) 0 0))))
def Fx (N:Nat) (a:Int) (c:(List AZ)→Int→Option ((List AZ)×(List AH)×(List AB))) (b:List AZ):Option ((List AZ)×(List AH)×(List AB)):=
 c b (BR (a+1))
def CN (N:Nat) (p0_w:AJ) (c:(List AZ)→Option ((List AZ)×(List AH)×(List AB))):Nat→(List AZ)→Int→Option ((List AZ)×(List AH)×(List AB))
 |0,_,_=>none
 |i+1,b,a=>
 cond (decide (a<(↑p0_w.J.N.length:Int))) (
 (ix p0_w.J.N a).bind λd=>
 cond (decide (p0_w.J.I<d.O)) (
 (ix p0_w.J.N a).bind λg=>
 chk (room (b.length+1) 32) <|
 Fx N a (CN N p0_w c i) (b++([g]:List AZ))) (
 Fx N a (CN N p0_w c i) b)) (
 c b)
def Fa (N:Nat) (a:Int) (b:Int→(List AH)→Option ((List AZ)×(List AH)×(List AB))) (c:List AH):Option ((List AZ)×(List AH)×(List AB)):=
 b (BR (a+1)) c
def CZ (N:Nat) (p0_w:AJ) (g:List AB) (d:List AZ):Nat→Int→(List AH)→Option ((List AZ)×(List AH)×(List AB))
 |0,_,_=>none
 |i+1,a,b=>
 cond (decide (a<(↑p0_w.G.D.length:Int))) (
 (ix p0_w.G.D a).bind λc=>
 cond (decide (c.F=3)) (
 (ix b a).bind λm=>
 (ix b a).bind λj=>
 (ix g c.P).bind λn=>
 (ix g c.P).bind λk=>
 (H0 N c j k).bind λl=>
 (ix b a).bind λo=>
 (ix b a).bind λp=>
 Fa N a (CZ N p0_w g d i) (upd b a l)) (
 Fa N a (CZ N p0_w g d i) b)) (
 some (d,b,g))
def C1 (N:Nat) (p0_w:AJ) (b:List AB) (a:List AZ):Option ((List AZ)×(List AH)×(List AB)):=
 CZ N p0_w b a N 0 p0_w.J.D
def BH (N:Nat) (p0_w:AJ) (a:List AB):Option ((List AZ)×(List AH)×(List AB)):=
 CN N p0_w (C1 N p0_w a) N ([]:List AZ) 0
def F2 (N:Nat) (a:Int→Int→Option ((List AZ)×(List AH)×(List AB))) (b:Int) (c:Int):Option ((List AZ)×(List AH)×(List AB)):=
 a b c
def Fy (N:Nat) (a:Int) (d:Int→Int→Int→Option ((List AZ)×(List AH)×(List AB))) (b:Int) (c:Int):Option ((List AZ)×(List AH)×(List AB)):=
 d (BR (a+1)) b c
def CO (N:Nat) (p0_w:AJ) (j:Int) (i:Int→Int→Option ((List AZ)×(List AH)×(List AB))):Nat→Int→Int→Int→Option ((List AZ)×(List AH)×(List AB))
 |0,_,_,_=>none
 |k+1,a,b,c=>
 cond (decide (a<(↑p0_w.J.N.length:Int))) (
 (ix p0_w.J.N a).bind λd=>
 cond ((decide (d.C=j))&&(decide (d.O≤p0_w.J.I))) (
 (G0 N (⟨b,c⟩:AB) d.K).bind λg=>
 Fy N a (CO N p0_w j i k) g.B g.A) (
 Fy N a (CO N p0_w j i k) b c)) (
 i b c)
def C2 (N:Nat) (i:Int) (b:List AB) (g:Int→(List AB)→Option ((List AZ)×(List AH)×(List AB))) (c:Int) (d:Int):Option ((List AZ)×(List AH)×(List AB)):=
 (Fo N (⟨c,d⟩:AB)).bind λa=>
 chk (room (b.length+([a]:List AB).length) 16) <|
 g (BR (i+1)) (b++([a]:List AB))
def DM (N:Nat) (p0_w:AJ) (g:Int) (a:List AB) (b:Int→(List AB)→Option ((List AZ)×(List AH)×(List AB))) (c:Int) (d:Int):Option ((List AZ)×(List AH)×(List AB)):=
 CO N p0_w g (C2 N g a b) N 0 c d
def BA (N:Nat) (p0_w:AJ) (a:(List AB)) (d:(List AB)→Option ((List AZ)×(List AH)×(List AB))):Nat→Int→(List AB)→Option ((List AZ)×(List AH)×(List AB))
 |0,_,_=>none
 |j+1,b,g=>
 cond (decide (b<(↑p0_w.G.E.length:Int))) (
 (ix p0_w.J.K b).bind λp=>
 (ix p0_w.J.K b).bind λc=>
 cond (decide (b<(↑a.length:Int))) (
 (ix a b).bind λk=>
 (cond (decide (0≤k.B)) ((ix a b).bind λl=>
 (ix a b).bind λm=>
 some (decide (l.B≤m.A))) (some false)).bind λn=>
 cond n (
 (ix a b).bind λo=>
 (G0 N c o).bind λi=>
 F2 N (DM N p0_w b g (BA N p0_w a d j)) i.B i.A) (
 F2 N (DM N p0_w b g (BA N p0_w a d j)) c.B c.A)) (
 DM N p0_w b g (BA N p0_w a d j) c.B c.A)) (
 d g)
def Ff (N:Nat) (p0_w:AJ) (a:(List AB)):Option ((List AZ)×(List AH)×(List AB)):=
 BA N p0_w a (BH N p0_w) N 0 p0_w.Aj
def Ig (N:Nat) (p0_w:AJ) (a:IL) (b:Int):Option Bool:=
 (cond (decide (a.Ah≠b)) (some true) ((HW N a.Bo (↑p0_w.G.Aq.length:Int)).bind λc=>
 some (!c))).bind λd=>
 cond (((d||(decide (a.Al≤0)))||(decide (a.C<(-1))))||(decide ((↑p0_w.G.E.length:Int)≤a.C))) (
 some false) (
 (cond (decide (a.C=(-1))) (some true) ((ix p0_w.G.E a.C).bind λg=>
 (ix p0_w.G.E b).bind λi=>
 some (decide (g.Aw=i.Aw)))).bind λj=>
 some j)
def El (N:Nat) (a:Int) (c:(List AD)→Int→Option (List AD)) (b:List AD):Option (List AD):=
 c b (BR (a+1))
def CC (N:Nat) (p0_w:AJ) (d:Int) (g:(List AD)→Option (List AD)):Nat→(List AD)→Int→Option (List AD)
 |0,_,_=>none
 |i+1,c,a=>
 cond (decide (a<(↑p0_w.G.D.length:Int))) (
 (ix p0_w.G.D a).bind λb=>
 cond (decide (b.P=d)) (
 chk (room (c.length+1) 32) <|
 El N a (CC N p0_w d g i) (c++([(⟨0,a,b.C,b.X⟩:AD)]:List AD))) (
 cond ((decide (b.C=d))&&(decide (b.F=4))) (
 chk (room (c.length+1) 32) <|
 El N a (CC N p0_w d g i) (c++([(⟨0,a,b.P,b.X⟩:AD)]:List AD))) (
 El N a (CC N p0_w d g i) c))) (
 g c)
def F8 (N:Nat) (a:List AD):Option (List AD):=
 some a
def C6 (N:Nat) (p0_w:AJ) (c:Int) (a:List AD):Option (List AD):=
 (ix p0_w.G.E c).bind λb=>
 cond (decide (b.Q≠0)) (
 chk (room (a.length+1) 32) <|
 F8 N (a++([(⟨0,(-1),b.Ap,b.X⟩:AD)]:List AD))) (
 F8 N a)
def C7 (N:Nat) (p0_w:AJ) (a:Int) (b:List AD):Option (List AD):=
 CC N p0_w a (C6 N p0_w a) N b 0
def F9 (N:Nat) (a:Int) (b:(List AD)→Int→Option (List AD)) (c:List AD):Option (List AD):=
 b c (BR (a+1))
def CR (N:Nat) (p0_w:AJ) (c:Int) (a:BT) (g:(List AD)→Option (List AD)):Nat→(List AD)→Int→Option (List AD)
 |0,_,_=>none
 |m+1,d,b=>
 cond (decide (b<(↑a.Ag.length:Int))) (
 (ix a.Ag b).bind λk=>
 (Ig N p0_w k c).bind λl=>
 cond l (
 (ix a.Ag b).bind λi=>
 (ix a.Ag b).bind λj=>
 chk (room (d.length+([(⟨i.Al,0,j.C,0⟩:AD)]:List AD).length) 32) <|
 F9 N b (CR N p0_w c a g m) (d++([(⟨i.Al,0,j.C,0⟩:AD)]:List AD))) (
 F9 N b (CR N p0_w c a g m) d)) (
 g d)
def Fg (N:Nat) (p0_w:AJ) (a:Int) (b:BT):Option (List AD):=
 CR N p0_w a b (C7 N p0_w a) N ([]:List AD) 0
def FQ (N:Nat) (a:Int) (b:Int):Option (Int×Int×Bool):=
 some (a,b,true)
def Gn (N:Nat) (a:Int) (b:Int) (g:Int) (i:Int→Int→Int→Option (Int×Int×Bool)) (c:Int):Option (Int×Int×Bool):=
 (PC .i64 c a).bind λd=>
 (Tm c a).bind λj=>
 cond (decide (1125899906842624<(BR ((BR (2*b))+d)))) (
 some (0,0,false)) (
 (PC .i64 g 2).bind λk=>
 i (BR ((BR (2*b))+d)) j k)
def Ce (N:Nat) (c:Int) (b:Int) (a:Int) (g:Int→Int→Option (Int×Int×Bool)):Nat→Int→Int→Int→Option (Int×Int×Bool)
 |0,_,_,_=>none
 |k+1,i,j,d=>
 cond (decide (0<d)) (
 cond (decide ((Ja .and .i64 b d)≠0)) (
 Gn N a i d (Ce N c b a g k) (BR ((BR (2*j))+c))) (
 Gn N a i d (Ce N c b a g k) (BR (2*j)))) (
 g i j)
def Fk (N:Nat) (c:Int) (a:Int) (b:Int):Option (Int×Int×Bool):=
 cond ((((((decide (c<0))||(decide (1125899906842624<c)))||(decide (a<0)))||(decide (1125899906842624<a)))||(decide (b<1)))||(decide (1125899906842624<b))) (
 some (0,0,false)) (
 Ce N c a b (FQ N) N 0 0 1125899906842624)
def Iz (N:Nat) (a:EU) (b:Int×Int×Bool) (c:Int):Option (Int×Int):=
 cond (decide ((BR (b.2.1+c))<a.Q)) (
 some (b.1,(BR (b.2.1+c)))) (
 some ((BR (b.1+1)),(BR ((BR (b.2.1+c))-a.Q))))
def H1 (N:Nat) (a:EU) (d:Int) (b:Int):Option (Int×Int):=
 (Fk N d a.V a.Q).bind λc=>
 cond (!c.2.2) (
 some (0,0)) (
 cond ((decide (b<0))||(decide (a.Q≤b))) (
 Iz N a c 0) (
 Iz N a c b))
def FM (N:Nat) (c:Int) (a:Int) (b:Int):Option Int:=
 (Fk N c a b).bind λd=>
 some d.1
def Jr (N:Nat) (a:Int):Option Bool:=
 some ((decide (0≤a))&&(decide (a≤1125899906842624)))
def Hp (N:Nat) (a:(List AV)):Option Bool:=
 some ((decide (1≤(↑a.length:Int)))&&(decide ((↑a.length:Int)≤32)))
def FP (N:Nat) (a:(List AV)) (c:Option Bool):Nat→Int→Option Bool
 |0,_=>none
 |t+1,b=>
 cond (decide (b<(↑a.length:Int))) (
 (ix a b).bind λd=>
 (Jr N d.H).bind λg=>
 (cond (!g) (some true) ((ix a b).bind λi=>
 (Jr N i.L).bind λj=>
 some (!j))).bind λk=>
 (cond k (some true) ((cond (decide (0<b)) ((ix a b).bind λl=>
 (ix a (BR (b-1))).bind λm=>
 (cond (decide (l.H≤m.H)) (some true) ((ix a b).bind λn=>
 (ix a (BR (b-1))).bind λo=>
 some (decide (n.L<o.L)))).bind λp=>
 some p) (some false)).bind λq=>
 some q)).bind λs=>
 cond s (
 some false) (
 FP N a c t (BR (b+1)))) (
 c)
def H2 (N:Nat) (a:(List AV)):Option Bool:=
 FP N a (Hp N a) N 0
def Gm (N:Nat) (a:(List AV)):Option (Int×Bool):=
 (ix a (BR ((↑a.length:Int)-1))).bind λb=>
 some (b.L,false)
def FO (N:Nat) (a:(List AV)) (c:Int) (d:Option (Int×Bool)):Nat→Int→Option (Int×Bool)
 |0,_=>none
 |p+1,b=>
 cond (decide (b<(↑a.length:Int))) (
 (ix a b).bind λi=>
 cond (decide (c≤i.H)) (
 (ix a (BR (b-1))).bind λj=>
 (ix a b).bind λk=>
 (ix a (BR (b-1))).bind λl=>
 (ix a b).bind λm=>
 (ix a (BR (b-1))).bind λn=>
 (Fk N (BR (c-j.H)) (BR (k.L-l.L)) (BR (m.H-n.H))).bind λg=>
 (ix a (BR (b-1))).bind λo=>
 some ((BR (o.L+g.1)),(decide (0<g.2.1)))) (
 FO N a c d p (BR (b+1)))) (
 d)
def Iu (N:Nat) (a:(List AV)) (b:Int):Option (Int×Bool):=
 (ix a 0).bind λc=>
 cond (decide (b≤c.H)) (
 (ix a 0).bind λd=>
 some (d.L,false)) (
 FO N a b (Gm N a) N 1)
def II (N:Nat) (a:(List AV)) (b:Int):Option Int:=
 (H2 N a).bind λc=>
 cond (!c) (
 some 0) (
 (Iu N a b).bind λd=>
 some d.1)
def IC (N:Nat) (a:AO) (c:Int) (b:Bool) (g:(List AV)) (d:Int) (j:Int) (k:Int):Option Int:=
 cond (decide (a.F=0)) (
 (II N g k).bind λl=>
 (FM N l c a.Y).bind λm=>
 (Ef N m a.Az).bind λn=>
 some n) (
 cond ((decide (a.F=1))||((decide (a.F=5))&&b)) (
 (FM N (max 0 j) a.V a.Q).bind λo=>
 some o) (
 cond (decide (a.F=2)) (
 (FM N a.V c a.Y).bind λp=>
 some p) (
 cond ((decide (a.F=3))&&b) (
 (FM N d a.V a.Q).bind λi=>
 some i) (
 some 0))))
def IH (N:Nat) (b:AO) (d:Int) (c:Bool) (g:(List AV)) (a:Int) (i:Int):Option Int:=
 (DE N a b.Au).bind λj=>
 cond (decide (b.C≠(-1))) (
 (FM N i b.Ak b.Af).bind λk=>
 (DE N a k).bind λl=>
 IC N b d c g a j (max 0 l)) (
 IC N b d c g a j a)
def GO (N:Nat) (b:AO) (c:AH) (a:AB) (d:AB):Option AB:=
 (IH N b c.U.B (decide (1≤c.R.B)) b.Ac.B a.B d.A).bind λg=>
 (IH N b c.U.A (decide (1≤c.R.A)) b.Ac.A a.A d.B).bind λi=>
 some (⟨g,i⟩:AB)
def IG (N:Nat) (c:Int) (a:Int) (b:Int):Option Int:=
 (Fk N c a b).bind λd=>
 some d.1
def Ii (N:Nat) (a:AO) (b:Int) (c:Int):Option Int:=
 cond (decide (a.F≠4)) (
 some 0) (
 (IG N b a.V a.Q).bind λd=>
 (IG N c a.Ak a.Af).bind λg=>
 some (BR (d-g)))
def E9 (N:Nat) (c:AO) (a:AB) (b:AB):Option AB:=
 (Ii N c a.B b.A).bind λd=>
 (Ii N c a.A b.B).bind λg=>
 some (⟨d,g⟩:AB)
def DW (N:Nat) (a:AB):Option AB:=
 some (⟨(max a.B 0),(max a.A 0)⟩:AB)
def Gu (N:Nat) (p0_w:AJ) (a:AD) (b:Int) (k:AO) (c:Int) (d:Int):Option AB:=
 (ix p0_w.J.D a.Z).bind λl=>
 (ix p0_w.J.D a.Z).bind λg=>
 (E5 N b).bind λi=>
 (GO N k g i (⟨c,d⟩:AB)).bind λj=>
 some j
def Cd (N:Nat) (p0_w:AJ) (d:Int) (b:AD) (c:Int):Option AB:=
 cond (decide (0<b.Bk)) (
 some (⟨0,b.Bk⟩:AB)) (
 cond (decide (b.Z<0)) (
 (ix p0_w.G.E d).bind λk=>
 (H1 N k c 0).bind λv=>
 (H1 N k c (BR (k.Q-1))).bind λw=>
 some (⟨v.1,w.1⟩:AB)) (
 (ix p0_w.G.D b.Z).bind λa=>
 cond (decide (a.F≠4)) (
 (E5 N 0).bind λg=>
 cond (decide (0≤a.C)) (
 (ix p0_w.Aj a.C).bind λx=>
 (ix p0_w.Aj a.C).bind λi=>
 Gu N p0_w b c a i.B i.A) (
 Gu N p0_w b c a g.B g.A)) (
 cond (decide (a.P=d)) (
 (E5 N c).bind λl=>
 (ix p0_w.Aj a.C).bind λy=>
 (ix p0_w.Aj a.C).bind λm=>
 (E9 N a l m).bind λn=>
 (DW N n).bind λo=>
 some o) (
 (ix p0_w.Aj a.P).bind λz=>
 (ix p0_w.Aj a.P).bind λp=>
 (E5 N c).bind λq=>
 (E9 N a p q).bind λj=>
 (DE N 0 j.A).bind λs=>
 (DE N 0 j.B).bind λt=>
 (DW N (⟨s,t⟩:AB)).bind λu=>
 some u))))
def Hz (N:Nat) (a:AD):Option Int:=
 cond (decide (0<a.Bk)) (
 some 0) (
 some 2)
def DZ (N:Nat) (g:AB) (a:AB) (i:Int) (j:Int):Option AB:=
 (DE N g.B i).bind λb=>
 (DE N a.A j).bind λc=>
 (DW N (⟨b,(min a.A c)⟩:AB)).bind λd=>
 some d
def DD (N:Nat) (p0_w:AJ) (c:Int) (a:(List AD)) (d:AB) (g:AB) (i:Int→Int→Option AB):Nat→Int→Int→Int→Option AB
 |0,_,_,_=>none
 |y+1,j,k,b=>
 cond (decide (b<(↑a.length:Int))) (
 (ix a b).bind λu=>
 (Cd N p0_w c u d.B).bind λv=>
 (ix a b).bind λw=>
 (Cd N p0_w c w g.A).bind λx=>
 (Ef N j v.A).bind λl=>
 (ix a b).bind λm=>
 (Hz N m).bind λn=>
 (Ef N l n).bind λo=>
 (Ef N k x.B).bind λp=>
 (ix a b).bind λq=>
 (Hz N q).bind λs=>
 (DE N p s).bind λt=>
 DD N p0_w c a d g i y o t (BR (b+1))) (
 i j k)
def GG (N:Nat) (p0_w:AJ) (a:Int) (b:(List AD)):Option AB:=
 (ix p0_w.Aj a).bind λi=>
 (ix p0_w.Aj a).bind λc=>
 (ix p0_w.Aj a).bind λg=>
 (ix p0_w.Aj a).bind λd=>
 DD N p0_w a b c d (DZ N c d) N 0 0 0
def F6 (N:Nat) (p0_w:AJ) (a:Int) (c:EU) (b:AB) (d:AB) (g:List AZ):Option (AB×(List AB)×(List AZ)):=
 (ix p0_w.J.K a).bind λi=>
 (ix p0_w.J.K a).bind λj=>
 some (d,(upd p0_w.J.K a (⟨(min b.B c.Ai),(min b.A c.Ai)⟩:AB)),g)
def C5 (N:Nat) (p0_w:AJ) (c:Int) (j:(List AD)) (a:EU) (g:List AZ):Option (AB×(List AB)×(List AZ)):=
 (GG N ({ p0_w with J:=({ p0_w.J with N:=g}:BV)}:AJ) c j).bind λb=>
 (DW N (⟨(BR (b.B-a.Ai)),(BR (b.A-a.Ai))⟩:AB)).bind λd=>
 cond (decide (0≤a.Ap)) (
 (Ih N g (BR ((BR (p0_w.J.I+1))+a.X)) a.Ap d).bind λi=>
 F6 N p0_w c a b d i) (
 F6 N p0_w c a b d g)
def F7 (N:Nat) (a:Int) (b:Int→(List AZ)→Option (AB×(List AB)×(List AZ))) (c:List AZ):Option (AB×(List AB)×(List AZ)):=
 b (BR (a+1)) c
def CQ (N:Nat) (p0_w:AJ) (a:Int) (b:(List AD)) (g:(List AZ)→Option (AB×(List AB)×(List AZ))):Nat→Int→(List AZ)→Option (AB×(List AB)×(List AZ))
 |0,_,_=>none
 |v+1,c,d=>
 cond (decide (c<(↑b.length:Int))) (
 (oB b c).bind λu=>
 (GG N ({ p0_w with J:=({ p0_w.J with N:=d}:BV)}:AJ) a u).bind λi=>
 (ix b c).bind λj=>
 (ix p0_w.Aj a).bind λw=>
 (ix p0_w.Aj a).bind λk=>
 (Cd N ({ p0_w with J:=({ p0_w.J with N:=d}:BV)}:AJ) a j k.B).bind λl=>
 (ix b c).bind λm=>
 (ix p0_w.Aj a).bind λx=>
 (ix p0_w.Aj a).bind λn=>
 (Cd N ({ p0_w with J:=({ p0_w.J with N:=d}:BV)}:AJ) a m n.A).bind λo=>
 (ix b c).bind λp=>
 cond (decide (0≤p.C)) (
 (ix b c).bind λq=>
 (ix b c).bind λs=>
 (Ih N d (BR ((BR (p0_w.J.I+1))+q.X)) s.C (⟨(min l.B i.B),(min o.A i.A)⟩:AB)).bind λt=>
 F7 N c (CQ N p0_w a b g v) t) (
 F7 N c (CQ N p0_w a b g v) d)) (
 g d)
def G9 (N:Nat) (p0_w:AJ) (a:Int) (b:BT):Option (AB×(List AB)×(List AZ)):=
 (Fg N p0_w a b).bind λc=>
 (ix p0_w.G.E a).bind λd=>
 CQ N p0_w a c (C5 N p0_w a c d) N 0 p0_w.J.N
def Et (N:Nat) (b:BV) (a:(List AZ)×(List AH)×(List AB)) (c:List AB) (d:List AB) (g:List AZ):Option (BV×(List AB)×(List AB)):=
 some ((⟨(BR (b.I+1)),d,g,a.2.1⟩:BV),a.2.2,c)
def ED (N:Nat) (a:AF) (j:BV) (b:BT) (c:(List AZ)×(List AH)×(List AB)) (m:(List AB)→(List AB)→(List AZ)→Option (BV×(List AB)×(List AB))):Nat→(List AB)→Int→(List AB)→(List AZ)→Option (BV×(List AB)×(List AB))
 |0,_,_,_,_=>none
 |n+1,d,g,k,l=>
 cond (decide (g<(↑a.E.length:Int))) (
 (G9 N (⟨a,(⟨j.I,k,l,c.2.1⟩:BV),c.2.2⟩:AJ) g b).bind λi=>
 chk (room (d.length+1) 16) <|
 ED N a j b c m n (d++([i.1]:List AB)) (BR (g+1)) i.2.1 i.2.2) (
 m d k l)
def JV (N:Nat) (b:AF) (a:BV) (c:BT) (d:(List Bool)) (g:(List AB)):Option (BV×(List AB)×(List AB)):=
 chk (room (([]:List AB).length+a.K.length) 16) <|
 chk (room (([]:List AH).length+a.D.length) 40) <|
 (G8 N (⟨b,(⟨a.I,(([]:List AB)++a.K),a.N,(([]:List AH)++a.D)⟩:BV),([]:List AB)⟩:AJ) c d).bind λj=>
 (Ff N (⟨b,(⟨a.I,(([]:List AB)++a.K),a.N,j⟩:BV),([]:List AB)⟩:AJ) g).bind λi=>
 ED N b a c i (Et N a i) N ([]:List AB) 0 (([]:List AB)++a.K) i.1
def M6 (N:Nat) (b:Dr) (a:Do):Option Int:=
 cond ((decide (0≤a.Au))&&(decide (a.Au≤(BR (b.Bf+1))))) (
 some 3) (
 cond ((decide (0≤a.Au))&&(decide (a.Au≤(BR ((BR (2*b.Bf))+2))))) (
 some 2) (
 cond ((decide (0≤a.Au))||a.Ay) (
 some 1) (
 some 0)))
def LM (N:Nat) (a:Dd) (b:Int):Option Dd:=
 cond (decide (2≤a.Bl)) (
 some (⟨b,0,0⟩:Dd)) (
 some (⟨a.Ba,(BR (a.Bl+1)),b⟩:Dd))
def N9 (N:Nat) (d:Dr) (a:Dd) (c:Do):Option Dd:=
 (M6 N d c).bind λb=>
 cond (decide (a.Ba≤b)) (
 some (⟨b,0,0⟩:Dd)) (
 cond ((decide (3≤a.Ba))&&(decide (0≤c.Au))) (
 some (⟨a.Ba,0,0⟩:Dd)) (
 cond (decide (a.Bl≠0)) (
 LM N a (max b a.Bp)) (
 LM N a b)))
def Lj (N:Nat) (a:List Dd):Option (List Dd):=
 some a
def Ks (N:Nat) (c:Dr) (a:(List Do)) (i:(List Dd)→Option (List Dd)):Nat→(List Dd)→Int→Int→Int→Int→Option (List Dd)
 |0,_,_,_,_,_=>none
 |n+1,d,g,j,k,l=>
 cond (decide (g<(↑a.length:Int))) (
 (ix a g).bind λm=>
 (N9 N c (⟨j,k,l⟩:Dd) m).bind λb=>
 chk (room (d.length+1) 24) <|
 Ks N c a i n (d++([b]:List Dd)) (BR (g+1)) b.Ba b.Bl b.Bp) (
 i d)
def PM (N:Nat) (b:Dr) (a:(List Do)):Option (List Dd):=
 chk (Mn 0 (↑a.length:Int) 24) <|
 Ks N b a (Lj N) N (List.replicate (0:Int).toNat ((⟨0,0,0⟩:Dd):Dd)) 0 0 0 0
def I0 (N:Nat) (a:(List Dd)):Option Bool:=
 some (decide ((↑a.length:Int)=(↑([1,2,3,3,3,3,1]:List Int).length:Int)))
def Hq (N:Nat) (b:(List Dd)) (c:Option Bool):Nat→Int→Option Bool
 |0,_=>none
 |j+1,a=>
 cond (decide (a<(↑([1,2,3,3,3,3,1]:List Int).length:Int))) (
 (cond (decide ((↑b.length:Int)≤a)) (some true) ((ix b a).bind λk=>
 (ix b a).bind λd=>
 (ix ([1,2,3,3,3,3,1]:List Int) a).bind λg=>
 some (decide (d.Ba≠g)))).bind λi=>
 cond i (
 some false) (
 Hq N b c j (BR (a+1)))) (
 c)
def Iv (N:Nat):Option Bool:=
 (PM N (⟨ByteArray.empty,0,0,3,0,0,0⟩:Dr) Rg).bind λa=>
 Hq N a (I0 N a) N 0
def HY (N:Nat):Option Bool:=
 some true
def FA (N:Nat) (a:(List BT)) (c:Option Bool):Nat→Int→Option Bool
 |0,_=>none
 |p+1,b=>
 cond (decide (b<(↑a.length:Int))) (
 (ix a b).bind λd=>
 (cond (decide (6<(↑d.Bc.length:Int))) (some true) ((ix a b).bind λg=>
 some (decide (6<(↑g.Bb.length:Int))))).bind λi=>
 (cond i (some true) ((ix a b).bind λj=>
 some (decide (6<(↑j.Ag.length:Int))))).bind λk=>
 (cond k (some true) ((ix a b).bind λl=>
 some (decide (6<(↑l.Bq.length:Int))))).bind λm=>
 (cond m (some true) ((ix a b).bind λn=>
 some (decide (8<(↑n.Am.length:Int))))).bind λo=>
 cond o (
 some false) (
 FA N a c p (BR (b+1)))) (
 c)
def Js (N:Nat) (c:AF) (b:(List Ci)) (a:(List BT)):Option Bool:=
 cond ((((decide (6<(↑c.E.length:Int)))||(decide (6<(↑c.D.length:Int))))||(decide (3<(↑b.length:Int))))||(decide (6<(↑a.length:Int)))) (
 some false) (
 FA N a (HY N) N 0)
def HG (N:Nat):Option Bool:=
 some true
def Gc (N:Nat) (a:(List AB)) (d:Option Bool):Nat→Int→Option Bool
 |0,_=>none
 |i+1,b=>
 cond (decide (b<(↑a.length:Int))) (
 (ix a b).bind λc=>
 (Dt N c).bind λg=>
 cond (((!g)||(decide (c.B<0)))||(decide (1125899906842624<c.A))) (
 some false) (
 Gc N a d i (BR (b+1)))) (
 d)
def Ji (N:Nat) (a:Int) (b:Int→Option Bool):Option Bool:=
 b (BR (a+1))
def FZ (N:Nat) (b:AF) (a:Ci) (d:Option Bool):Nat→Int→Option Bool
 |0,_=>none
 |i+1,c=>
 cond (decide (c<(↑a.Am.length:Int))) (
 (ix a.Am c).bind λg=>
 cond (decide ((↑g.length:Int)≠(↑b.E.length:Int))) (
 some false) (
 Gc N g (Ji N c (FZ N b a d i)) N 0)) (
 d)
def Li (N:Nat) (b:AF) (a:Ci):Option Bool:=
 cond (((((decide (a.Bm<0))||(decide (1073741824<a.Bm)))||(decide (a.P<0)))||(decide (16777216<a.P)))||(decide (24<(↑a.Am.length:Int)))) (
 some false) (
 FZ N b a (HG N) N 0)
def G5 (N:Nat):Option Bool:=
 some true
def Eu (N:Nat) (b:AF) (a:(List Ci)) (c:Option Bool):Nat→Int→Option Bool
 |0,_=>none
 |j+1,d=>
 cond (decide (d<(↑a.length:Int))) (
 (ix a d).bind λg=>
 (Li N b g).bind λi=>
 cond (!i) (
 some false) (
 Eu N b a c j (BR (d+1)))) (
 c)
def JW (N:Nat) (b:AF) (a:(List Ci)):Option Bool:=
 Eu N b a (G5 N) N 0
def LE (N:Nat) (c:AF) (d:BV) (g:Ci) (b:(List BT)) (a:(List Bool)) (i:Int):Option (BV×Int×(List BT)×AF×(List Bool)×Ci):=
 some (d,i,b,c,a,g)
def Kz (N:Nat) (a:List AB):Option (List AB):=
 some a
def K0 (N:Nat) (c:Ci) (b:Int) (a:Int):Option (List AB):=
 cond ((decide (a<1))||(decide (64<a))) (
 some ([]:List AB)) (
 chk (Mn a a 16) <|
 cond (decide (b<c.P)) (
 some (List.replicate (a:Int).toNat ((⟨0,0⟩:AB):AB))) (
 cond ((decide (0≤(BR (b-c.P))))&&(decide ((BR (b-c.P))<(↑c.Am.length:Int)))) (
 (ix c.Am (BR (b-c.P))).bind λd=>
 Kz N (aC (List.replicate (a:Int).toNat ((⟨0,0⟩:AB):AB)) d)) (
 Kz N (List.replicate (a:Int).toNat ((⟨0,0⟩:AB):AB)))))
def IK {σ:Type}(N:Nat) (j:(Int×(List AB))→σ→Option (Bool×σ)) (c:AF) (k:(List Bool)) (l:Ci) (d:Int) (g:Int) (m:List AB) (n:List AZ) (o:List AH) (p:σ) (q:Int→Int→(List AB)→(List AZ)→(List AH)→σ→Option (Bool×σ)) (s:List Int) (t:List KF) (u:List Nl) (v:List IL) (w:List L3):Option (Bool×σ):=
 (K0 N l g (↑c.E.length:Int)).bind λi=>
 (Jn N c (⟨g,m,n,o⟩:BV) (⟨s,t,u,v,w⟩:BT) k i).bind λa=>
 (j (d,a.2.1) p).bind λb=>
 cond b.1 (
 q (BR (d+1)) a.1.I a.1.K a.1.N a.1.D b.2) (
 some (false,b.2))
def Dm {σ:Type}(N:Nat) (c:(Int×(List AB))→σ→Option (Bool×σ)) (c2_:Int) (c3_:(List BT)) (d:AF) (g:(List Bool)) (i:Ci):Nat→Int→Int→(List AB)→(List AZ)→(List AH)→σ→Option (Bool×σ)
 |0,_,_,_,_,_,_=>none
 |o+1,a,k,l,m,n,j=>
 cond (decide (a<c2_)) (
 cond (decide (a<(↑c3_.length:Int))) (
 (ix c3_ a).bind λb=>
 IK N c d g i a k l m n j (Dm N c c2_ c3_ d g i o) b.Am b.Bc b.Bb b.Ag b.Bq) (
 IK N c d g i a k l m n j (Dm N c c2_ c3_ d g i o) ([]) ([]) ([]) ([]) ([]))) (
 some (true,j))
def Jj {σ:Type}(N:Nat) (a:BV) (c2_:Int) (c3_:(List BT)) (b:AF) (c:(List Bool)) (d:Ci) (g:(Int×(List AB))→σ→Option (Bool×σ)) (s:σ):Option (Bool×σ):=
 Dm N g c2_ c3_ b c d N 0 a.I a.K a.N a.D s
def Gr (N:Nat) (a:Dr) (b:Int) (c:List AB) (d:Int) (g:Int):Option (Bool×(Int×Int)):=
 (cond ((decide (0≤a.Ah))&&(decide (a.Ah<(↑c.length:Int)))) ((ix c a.Ah).bind λi=>
 some (decide (a.Bd<i.A))) (some false)).bind λj=>
 cond j (
 some (false,(b,b))) (
 some (true,(d,g)))
def JQ (N:Nat) (a:Int) (d:Int→Int→Int→Option Do) (b:Int) (c:Int):Option Do:=
 d (BR (a+1)) b c
def DK (N:Nat) (i:AF) (j:BV) (c:(List BT)) (a:(List Bool)) (n:Dr) (k:List Ci) (o:Int→Option Do):Nat→Int→Int→Int→Option Do
 |0,_,_,_=>none
 |q+1,g,l,m=>
 cond (decide (g<(↑k.length:Int))) (
 (ix k g).bind λp=>
 (LE N i j p c a l).bind λb=>
 (Jj N b.1 b.2.1 b.2.2.1 b.2.2.2.1 b.2.2.2.2.1 b.2.2.2.2.2 (λs t=>Gr N n s.1 s.2 t.1 t.2) (l,m)).bind λd=>
 cond d.1 (
 JQ N g (DK N i j c a n k o q) d.2.1 d.2.2) (
 JQ N g (DK N i j c a n k o q) d.2.1 d.2.2)) (
 o m)
def D9 (N:Nat) (a:Int):Option Do:=
 some (⟨a,false⟩:Do)
def Fh (N:Nat) (d:AF) (g:BV) (c:(List BT)) (b:(List Bool)) (a:Int) (i:Dr) (j:List Ci):Option Do:=
 DK N d g c b i j (D9 N) N 0 (min a 24) (-1)
def KX (N:Nat) (g:AF) (a:Int) (j:BV) (b:(List Ci)) (i:(List BT)) (d:(List Bool)) (c:Int):Option Do:=
 cond ((decide (a<0))||(decide ((↑g.Ad.length:Int)≤a))) (
 some (⟨(-1),false⟩:Do)) (
 (ix g.Ad a).bind λk=>
 cond (decide ((↑b.length:Int)=0)) (
 Fh N g j i d c k ([(⟨0,0,[]⟩:Ci)]:List Ci)) (
 Fh N g j i d c k b))
def DV (N:Nat) (a:List AB):Option (List AB):=
 some a
def Is (N:Nat) (a:Int) (b:Int→Int→Int→Option (List AB)) (c:Int) (d:Int):Option (List AB):=
 b (BR (a+1)) c d
def DT (N:Nat) (b:Ci) (a:Int) (d:Int) (g:Int→Int→Option (List AB)):Nat→Int→Int→Int→Option (List AB)
 |0,_,_,_=>none
 |o+1,c,i,j=>
 cond (decide (c<(↑b.Am.length:Int))) (
 (cond ((decide (b.P≤a))&&(decide ((BR (a-b.P))=c))) ((ix b.Am c).bind λl=>
 some (decide (d<(↑l.length:Int)))) (some false)).bind λm=>
 cond m (
 (ix b.Am c).bind λn=>
 (ix n d).bind λk=>
 Is N c (DT N b a d g o) k.B k.A) (
 Is N c (DT N b a d g o) i j)) (
 g i j)
def Hy (N:Nat) (a:List AB) (b:Int) (c:(List AB)→Int→Option (List AB)) (d:Int) (g:Int):Option (List AB):=
 chk (room (a.length+1) 16) <|
 c (a++([(⟨d,g⟩:AB)]:List AB)) (BR (b+1))
def DU (N:Nat) (c:Ci) (b:Int) (a:Int) (g:(List AB)→Option (List AB)):Nat→(List AB)→Int→Option (List AB)
 |0,_,_=>none
 |j+1,i,d=>
 cond (decide (d<a)) (
 DT N c b d (Hy N i d (DU N c b a g j)) N 0 0 0) (
 g i)
def KB (N:Nat) (c:Ci) (b:Int) (a:Int):Option (List AB):=
 cond ((decide (a<1))||(decide (64<a))) (
 some ([]:List AB)) (
 DU N c b a (DV N) N ([]:List AB) 0)
def FK (N:Nat):Option Int:=
 some (-1)
def Gk (N:Nat) (c:AF) (d:Dr) (g:Ci) (b:(List Bool)) (i:Int) (j:Int) (m:List AB) (n:List AZ) (o:List AH) (p:Int→Int→(List AB)→(List AZ)→(List AH)→Option Int) (q:List Int) (s:List KF) (t:List Nl) (u:List IL) (v:List L3):Option Int:=
 (KB N g j (↑c.E.length:Int)).bind λk=>
 (JV N c (⟨j,m,n,o⟩:BV) (⟨q,s,t,u,v⟩:BT) b k).bind λa=>
 (ix a.2.1 d.Ah).bind λl=>
 cond (decide (d.Bd<l.A)) (
 some i) (
 p (BR (i+1)) a.1.I a.1.K a.1.N a.1.D)
def Cs (N:Nat) (d:AF) (g:Dr) (i:Ci) (c:(List BT)) (a:(List Bool)) (b:Int) (l:Option Int):Nat→Int→Int→(List AB)→(List AZ)→(List AH)→Option Int
 |0,_,_,_,_,_=>none
 |q+1,j,m,n,o,p=>
 cond ((decide (j<b))&&(decide (j<24))) (
 cond (decide (j<(↑c.length:Int))) (
 (ix c j).bind λk=>
 Gk N d g i a j m n o p (Cs N d g i c a b l q) k.Am k.Bc k.Bb k.Ag k.Bq) (
 Gk N d g i a j m n o p (Cs N d g i c a b l q) ([]) ([]) ([]) ([]) ([]))) (
 l)
def Hx (N:Nat) (g:AF) (i:Dr) (a:BV) (j:Ci) (d:(List BT)) (c:(List Bool)) (b:Int):Option Int:=
 Cs N g i j d c b (FK N) N 0 a.I a.K a.N a.D
def Hl (N:Nat) (a:Int) (b:Int→Int→Option Do) (c:Int):Option Do:=
 b c (BR (a+1))
def DC (N:Nat) (g:AF) (b:Int) (i:BV) (d:(List BT)) (c:(List Bool)) (a:Int) (j:List Ci) (m:Int→Option Do):Nat→Int→Int→Option Do
 |0,_,_=>none
 |q+1,k,l=>
 cond (decide (l<(↑j.length:Int))) (
 (ix g.Ad b).bind λo=>
 (ix j l).bind λp=>
 (Hx N g o i p d c a).bind λn=>
 cond ((decide (0≤n))&&((decide (k<0))||(decide (n<k)))) (
 Hl N l (DC N g b i d c a j m q) n) (
 Hl N l (DC N g b i d c a j m q) k)) (
 m k)
def Ec (N:Nat) (a:Int):Option Do:=
 some (⟨a,false⟩:Do)
def Ed (N:Nat) (g:AF) (b:Int) (i:BV) (d:(List BT)) (c:(List Bool)) (a:Int) (j:List Ci):Option Do:=
 DC N g b i d c a j (Ec N) N (-1) 0
def Hw (N:Nat) (i:AF) (a:Int) (j:BV) (b:(List Ci)) (g:(List BT)) (d:(List Bool)) (c:Int):Option Do:=
 cond ((decide (a<0))||(decide ((↑i.Ad.length:Int)≤a))) (
 some (⟨(-1),false⟩:Do)) (
 cond (decide ((↑b.length:Int)=0)) (
 Ed N i a j g d c ([(⟨0,0,[]⟩:Ci)]:List Ci)) (
 Ed N i a j g d c b))
def KA (N:Nat) (b:AF) (a:BW):Option (Id×Bool):=
 cond ((decide (a.Ao<0))||(decide ((↑b.Ab.length:Int)≤a.Ao))) (
 some ((⟨ByteArray.empty,0,0,0,0⟩:Id),false)) (
 (ix b.Ab a.Ao).bind λc=>
 some (c,true))
def FY (N:Nat) (b:(List AV)) (c2_:Int) (a:Int):Option Bool:=
 (ix b a).bind λc=>
 some (decide (c2_≤c.L))
def JN (N:Nat) (a:AV) (b:Int):Option (Int×Bool):=
 some ((BR (a.H+b)),true)
def JJ (N:Nat) (a:(List AV)) (b:Int):Option (Int×Bool):=
 (D6 N a).bind λi=>
 (cond (!i) (some true) ((ix a (BR ((↑a.length:Int)-1))).bind λj=>
 some (decide (j.L<b)))).bind λk=>
 cond k (
 some (0,false)) (
 (LB N (↑a.length:Int) (λx=>FY N a b x)).bind λd=>
 cond (decide (d=0)) (
 some (0,true)) (
 (ix a (BR (d-1))).bind λc=>
 (ix a d).bind λl=>
 (ix a d).bind λm=>
 (Ga N (BR (b-c.L)) (BR (l.H-c.H)) (BR (m.L-c.L))).bind λg=>
 cond (decide (0<g.2.1)) (
 JN N c (BR (g.1+1))) (
 JN N c g.1)))
def LY (N:Nat) (a:AB) (b:AB):Option (AB×Bool):=
 (Dt N (⟨(max a.B b.B),(min a.A b.A)⟩:AB)).bind λc=>
 cond (!c) (
 some ((⟨0,0⟩:AB),false)) (
 some ((⟨(max a.B b.B),(min a.A b.A)⟩:AB),true))
def E2 (N:Nat) (c:Int×Bool) (b:Int):Option (AB×Bool):=
 (LY N (⟨c.1,b⟩:AB) (⟨0,1125899906842624⟩:AB)).bind λa=>
 some (a.1,a.2)
def IM (N:Nat) (a:AF) (b:BW):Option (AB×Bool):=
 (KA N a b).bind λc=>
 cond ((((!c.2)||(decide (c.1.F≠0)))||(decide (c.1.W<0)))||(decide ((↑a.E.length:Int)≤c.1.W))) (
 some ((⟨0,0⟩:AB),false)) (
 (ix a.E c.1.W).bind λg=>
 (D6 N g.Ba).bind λk=>
 cond (!k) (
 some ((⟨0,0⟩:AB),false)) (
 (JJ N g.Ba b.Value.B).bind λi=>
 cond (!i.2) (
 some ((⟨0,0⟩:AB),false)) (
 (Es N b.Value.A 1).bind λj=>
 (JJ N g.Ba j).bind λd=>
 cond d.2 (
 E2 N i (BR (d.1-1))) (
 E2 N i 1125899906842624))))
def Hs (N:Nat) (a:Dr) (b:Int):Option Bool:=
 some (decide (a.Ay≤b))
def Hr (N:Nat) (a:Int) (b:Int→Int→(List Bool)→Option Bool) (c:Int) (d:List Bool):Option Bool:=
 b c (BR (a+1)) d
def Di (N:Nat) (b:AF) (a:(List BW)) (g:Dr) (j:Int→Option Bool):Nat→Int→Int→(List Bool)→Option Bool
 |0,_,_,_=>none
 |p+1,k,i,d=>
 cond (decide (i<(↑a.length:Int))) (
 (ix a i).bind λc=>
 (cond ((decide (c.Ao<0))||(decide ((↑b.Ab.length:Int)≤c.Ao))) (some true) ((ix d c.Ao).bind λq=>
 (ix d c.Ao).bind λn=>
 some n)).bind λo=>
 cond o (
 Hr N i (Di N b a g j p) k d) (
 (ix b.Ab c.Ao).bind λl=>
 cond ((decide (l.F≠0))||(decide (l.W≠g.Ah))) (
 Hr N i (Di N b a g j p) k d) (
 (IM N b c).bind λm=>
 cond (m.2&&(decide (g.Be<m.1.B))) (
 (ix d c.Ao).bind λs=>
 (ix d c.Ao).bind λt=>
 Hr N i (Di N b a g j p) (BR (k+1)) (upd d c.Ao true)) (
 Hr N i (Di N b a g j p) k d)))) (
 j k)
def JZ (N:Nat) (b:AF) (a:Int) (c:(List BW)):Option Bool:=
 (cond ((decide (a<0))||(decide ((↑b.Ad.length:Int)≤a))) (some true) ((ix b.Ad a).bind λg=>
 some (decide (g.Ay≤0)))).bind λi=>
 cond i (
 some false) (
 (ix b.Ad a).bind λd=>
 chk (Mn (↑b.Ab.length:Int) (↑b.Ab.length:Int) 1) <|
 Di N b c d (Hs N d) N 0 0 (List.replicate ((↑b.Ab.length:Int):Int).toNat (false:Bool)))
def Jo (N:Nat) (b:AF) (a:BW):Option (Id×Bool):=
 cond ((decide (a.Ao<0))||(decide ((↑b.Ab.length:Int)≤a.Ao))) (
 some ((⟨ByteArray.empty,0,0,0,0⟩:Id),false)) (
 (ix b.Ab a.Ao).bind λc=>
 some (c,true))
def Hn (N:Nat) (a:Int):Option Int:=
 some a
def Ee (N:Nat) (a:(List AV)) (b:Int) (c:Int→Option Int):Nat→Int→Int→Option Int
 |0,_,_=>none
 |k+1,g,i=>
 cond (decide (g<i)) (
 (PC .i64 (BR (g+i)) 2).bind λd=>
 (II N a d).bind λj=>
 cond (decide (b<j)) (
 Ee N a b c k g d) (
 Ee N a b c k (BR (d+1)) i)) (
 c g)
def Gv (N:Nat) (a:(List AV)) (b:Int):Option Int:=
 Ee N a b (Hn N) N 0 1125899906842625
def GF (N:Nat) (c:BW) (d:EU) (a:Int):Option (AB×Bool):=
 (Gv N d.Ba c.Value.A).bind λb=>
 cond (decide ((BR (b-1))<a)) (
 some ((⟨0,0⟩:AB),false)) (
 some ((⟨a,(BR (b-1))⟩:AB),true))
def IX (N:Nat) (b:AF) (a:BW):Option (AB×Bool):=
 (Jo N b a).bind λc=>
 cond ((((!c.2)||(decide (c.1.F≠0)))||(decide (c.1.W<0)))||(decide ((↑b.E.length:Int)≤c.1.W))) (
 some ((⟨0,0⟩:AB),false)) (
 (ix b.E c.1.W).bind λd=>
 (H2 N d.Ba).bind λi=>
 cond ((!i)||(decide (a.Value.A<a.Value.B))) (
 some ((⟨0,0⟩:AB),false)) (
 cond (decide (0<a.Value.B)) (
 (Gv N d.Ba (BR (a.Value.B-1))).bind λg=>
 GF N a d g) (
 GF N a d 0)))
def Gl (N:Nat):Option Bool:=
 some false
def Hm (N:Nat) (a:Int) (b:Int→Option Bool):Option Bool:=
 b (BR (a+1))
def Du (N:Nat) (c:AF) (d:Dr) (a:(List BW)) (b:Int) (i:Option Bool):Nat→Int→Option Bool
 |0,_=>none
 |m+1,g=>
 cond (decide (g<(↑a.length:Int))) (
 (ix a g).bind λk=>
 cond (decide (k.Ao≠b)) (
 Hm N g (Du N c d a b i m)) (
 (ix a g).bind λl=>
 (IX N c l).bind λj=>
 cond (j.2&&(decide (d.Be<j.1.B))) (
 some true) (
 Hm N g (Du N c d a b i m)))) (
 i)
def Ir (N:Nat) (c:AF) (d:Dr) (b:(List BW)) (a:Int):Option Bool:=
 (ix c.Ab a).bind λg=>
 (cond (decide (g.F≠0)) (some true) ((ix c.Ab a).bind λi=>
 some (decide (i.W≠d.Ah)))).bind λj=>
 cond j (
 some false) (
 Du N c d b a (Gl N) N 0)
def Dh (N:Nat) (b:AF) (a:Int) (c:Int):Option Bool:=
 (ix b.Ad a).bind λd=>
 (cond (decide (0<d.Ay)) ((ix b.Ad a).bind λg=>
 some (decide (g.Ay≤c))) (some false)).bind λi=>
 some i
def HU (N:Nat) (a:Int) (b:Int→Int→Option Bool) (c:Int):Option Bool:=
 b c (BR (a+1))
def C0 (N:Nat) (c:AF) (b:Int) (a:(List BW)) (g:Int→Option Bool):Nat→Int→Int→Option Bool
 |0,_,_=>none
 |l+1,i,d=>
 cond (decide (d<(↑c.Ab.length:Int))) (
 (ix c.Ad b).bind λj=>
 (Ir N c j a d).bind λk=>
 cond k (
 HU N d (C0 N c b a g l) (BR (i+1))) (
 HU N d (C0 N c b a g l) i)) (
 g i)
def HV (N:Nat) (c:AF) (a:Int) (b:(List BW)):Option Bool:=
 cond ((decide (a<0))||(decide ((↑c.Ad.length:Int)≤a))) (
 some false) (
 C0 N c a b (Dh N c a) N 0 0)
def HZ (N:Nat) (g:AF) (c:Int) (k:BV) (b:(List Ci)) (j:(List BT)) (i:(List Bool)) (d:Int) (a:(List BW)):Option Bool:=
 (Iv N).bind λl=>
 (Js N g b j).bind λo=>
 (JW N g b).bind λp=>
 (cond (((((!o)||(!p))||(decide (8<d)))||(decide (8<(↑i.length:Int))))||(decide (12<(↑a.length:Int)))) (some true) ((Jy N g).bind λq=>
 some (!q))).bind λs=>
 (cond s (some true) ((Lg N g k).bind λt=>
 some (!t))).bind λu=>
 cond u (
 some l) (
 (cond l ((KX N g c k b j i d).bind λw=>
 (Hw N g c k b j i d).bind λx=>
 some (R6 w.v x.v)) (some false)).bind λy=>
 (cond y ((JZ N g c a).bind λm=>
 (HV N g c a).bind λn=>
 some (m==n)) (some false)).bind λz=>
 some z)
end Go.Proofs.YtibidnaedddfdaaGreat
