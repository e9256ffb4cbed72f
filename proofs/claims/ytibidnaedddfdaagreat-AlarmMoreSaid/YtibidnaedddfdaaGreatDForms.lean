import Derived.Test.YtibidnaedddfdaaGreatDReps
namespace Go.Proofs.YtibidnaedddfdaaGreat
set_option linter.all false
open Go.RowKit
def IW (N:Nat) (s:(List B9)) (i:Int) (l:(List B9)):Option ((List B9)):=X0 32 s i l
def J6 (N:Nat) (b:Fk) (a:DG):Option Int:=
 cond ((decide (0≤a.O))&&(decide (a.O≤(B8 (b.Az+1))))) (
 some 3) (
 cond ((decide (0≤a.O))&&(decide (a.O≤(B8 ((B8 (2*b.Az))+2))))) (
 some 2) (
 cond ((decide (0≤a.O))||a.Aw) (
 some 1) (
 some 0)))
def IY (N:Nat) (a:Cs) (b:Int):Option Cs:=
 cond (decide (2≤a.Be)) (
 some (⟨b,0,0⟩:Cs)) (
 some (⟨a.Av,(B8 (a.Be+1)),b⟩:Cs))
def K7 (N:Nat) (d:Fk) (a:Cs) (c:DG):Option Cs:=
 (J6 N d c).bind λb=>
 cond (decide (a.Av≤b)) (
 some (⟨b,0,0⟩:Cs)) (
 cond ((decide (3≤a.Av))&&(decide (0≤c.O))) (
 some (⟨a.Av,0,0⟩:Cs)) (
 cond (decide (a.Be≠0)) (
 IY N a (max b a.Bj)) (
 IY N a b)))
def Iz (N:Nat) (a:List Cs):Option (List Cs):=
 some a
def H9 (N:Nat) (c:Fk) (a:(List DG)) (i:(List Cs)→Option (List Cs)):Nat→(List Cs)→Int→Int→Int→Int→Option (List Cs)
 |0,_,_,_,_,_=>none
 |n+1,d,g,j,k,l=>
 cond (decide (g<(↑a.length:Int))) (
 (ix a g).bind λm=>
 (K7 N c (⟨j,k,l⟩:Cs) m).bind λb=>
 chk (room (d.length+1) 24) <|
 H9 N c a i n (d++([b]:List Cs)) (B8 (g+1)) b.Av b.Be b.Bj) (
 i d)
def L6 (N:Nat) (b:Fk) (a:(List DG)):Option (List Cs):=
 chk (Kj 0 (↑a.length:Int) 24) <|
 H9 N b a (Iz N) N (List.replicate (0:Int).toNat ((⟨0,0,0⟩:Cs):Cs)) 0 0 0 0
def GL (N:Nat) (a:(List Cs)):Option Bool:=
 some (decide ((↑a.length:Int)=(↑([1,2,3,3,3,3,1]:List Int).length:Int)))
def Fh (N:Nat) (b:(List Cs)) (c:Option Bool):Nat→Int→Option Bool
 |0,_=>none
 |j+1,a=>
 cond (decide (a<(↑([1,2,3,3,3,3,1]:List Int).length:Int))) (
 (cond (decide ((↑b.length:Int)≤a)) (some true) ((ix b a).bind λk=>
 (ix b a).bind λd=>
 (ix ([1,2,3,3,3,3,1]:List Int) a).bind λg=>
 some (decide (d.Av≠g)))).bind λi=>
 cond i (
 some false) (
 Fh N b c j (B8 (a+1)))) (
 c)
def GG (N:Nat):Option Bool:=
 (L6 N (⟨ByteArray.empty,0,0,3,0,0,0⟩:Fk) OE).bind λa=>
 Fh N a (GL N a) N 0
def FO (N:Nat):Option Bool:=
 some true
def Dx (N:Nat) (a:(List CW)) (c:Option Bool):Nat→Int→Option Bool
 |0,_=>none
 |p+1,b=>
 cond (decide (b<(↑a.length:Int))) (
 (ix a b).bind λd=>
 (cond (decide (6<(↑d.Ba.length:Int))) (some true) ((ix a b).bind λg=>
 some (decide (6<(↑g.Bb.length:Int))))).bind λi=>
 (cond i (some true) ((ix a b).bind λj=>
 some (decide (6<(↑j.Au.length:Int))))).bind λk=>
 (cond k (some true) ((ix a b).bind λl=>
 some (decide (6<(↑l.Bn.length:Int))))).bind λm=>
 (cond m (some true) ((ix a b).bind λn=>
 some (decide (8<(↑n.Ai.length:Int))))).bind λo=>
 cond o (
 some false) (
 Dx N a c p (B8 (b+1)))) (
 c)
def G0 (N:Nat) (c:AU) (b:(List Cr)) (a:(List CW)):Option Bool:=
 cond ((((decide (6<(↑c.D.length:Int)))||(decide (6<(↑c.F.length:Int))))||(decide (3<(↑b.length:Int))))||(decide (6<(↑a.length:Int)))) (
 some false) (
 Dx N a (FO N) N 0)
def EO (N:Nat) (a:AH):Option Bool:=
 some (decide (a.B≤a.A))
def FA (N:Nat):Option Bool:=
 some true
def Ei (N:Nat) (a:(List AH)) (d:Option Bool):Nat→Int→Option Bool
 |0,_=>none
 |i+1,b=>
 cond (decide (b<(↑a.length:Int))) (
 (ix a b).bind λc=>
 (EO N c).bind λg=>
 cond (((!g)||(decide (c.B<0)))||(decide (1125899906842624<c.A))) (
 some false) (
 Ei N a d i (B8 (b+1)))) (
 d)
def Gp (N:Nat) (a:Int) (b:Int→Option Bool):Option Bool:=
 b (B8 (a+1))
def D9 (N:Nat) (b:AU) (a:Cr) (d:Option Bool):Nat→Int→Option Bool
 |0,_=>none
 |i+1,c=>
 cond (decide (c<(↑a.Ai.length:Int))) (
 (ix a.Ai c).bind λg=>
 cond (decide ((↑g.length:Int)≠(↑b.D.length:Int))) (
 some false) (
 Ei N g (Gp N c (D9 N b a d i)) N 0)) (
 d)
def Ix (N:Nat) (b:AU) (a:Cr):Option Bool:=
 cond (((((decide (a.At<0))||(decide (1073741824<a.At)))||(decide (a.I<0)))||(decide (16777216<a.I)))||(decide (24<(↑a.Ai.length:Int)))) (
 some false) (
 D9 N b a (FA N) N 0)
def E3 (N:Nat):Option Bool:=
 some true
def Dh (N:Nat) (b:AU) (a:(List Cr)) (c:Option Bool):Nat→Int→Option Bool
 |0,_=>none
 |j+1,d=>
 cond (decide (d<(↑a.length:Int))) (
 (ix a d).bind λg=>
 (Ix N b g).bind λi=>
 cond (!i) (
 some false) (
 Dh N b a c j (B8 (d+1)))) (
 c)
def Gc (N:Nat) (b:AU) (a:(List Cr)):Option Bool:=
 Dh N b a (E3 N) N 0
def Cc (N:Nat) (c:Int) (b:Int) (a:Int):Option Bool:=
 some ((decide (b≤c))&&(decide (c≤a)))
def CT (N:Nat) (a:Int):Option Bool:=
 (Cc N a 0 1125899906842624).bind λb=>
 some b
def Dy (N:Nat) (a:AU) (c:Option Bool):Nat→Int→Option Bool
 |0,_=>none
 |i+1,b=>
 cond (decide (b<(↑a.Ap.length:Int))) (
 (ix a.Ap b).bind λd=>
 (CT N d).bind λg=>
 cond (!g) (
 some false) (
 Dy N a c i (B8 (b+1)))) (
 c)
def FQ (N:Nat):Option Bool:=
 some true
def D0 (N:Nat) (a:AU):Option Bool:=
 Dy N a (FQ N) N 0
def Dz (N:Nat) (a:AU) (d:Option Bool):Nat→Int→Option Bool
 |0,_=>none
 |g+1,c=>
 cond (decide (c<(↑a.J.size:Int))) (
 (UQ a.J c).bind λb=>
 cond ((((decide (b<32))||(decide (126<b)))||(decide (b=34)))||(decide (b=92))) (
 some false) (
 Dz N a d g (B8 (c+1)))) (
 d)
def G1 (N:Nat) (a:AU):Option Bool:=
 (cond (decide (500<(↑a.J.size:Int))) (some true) ((Cc N (↑a.Ar.length:Int) 1 16).bind λb=>
 some (!b))).bind λc=>
 (cond c (some true) ((Cc N a.W 0 64).bind λd=>
 some (!d))).bind λg=>
 (cond g (some true) ((Cc N (↑a.D.length:Int) 1 64).bind λi=>
 some (!i))).bind λj=>
 (cond ((((((j||(decide (96<(↑a.F.length:Int))))||(decide (40<(↑a.Ac.length:Int))))||(decide (128<(↑a.Am.length:Int))))||(decide (128<(↑a.An.length:Int))))||(decide (40<(↑a.Aq.length:Int))))||(decide ((↑a.Ap.length:Int)≠3))) (some true) ((Cc N a.Z 0 1099511627776).bind λk=>
 some (!k))).bind λl=>
 cond l (
 some false) (
 Dz N a (D0 N a) N 0)
def GA (N:Nat):Option Bool:=
 some true
def Ey (N:Nat) (a:ByteArray) (d:Option Bool):Nat→Int→Option Bool
 |0,_=>none
 |g+1,c=>
 cond (decide (c<(↑a.size:Int))) (
 (UQ a c).bind λb=>
 cond ((((decide (b<97))||(decide (122<b)))&&((decide (b<48))||(decide (57<b))))&&(decide (b≠95))) (
 some false) (
 Ey N a d g (B8 (c+1)))) (
 d)
def H8 (N:Nat) (a:ByteArray):Option Bool:=
 (cond (((decide ((↑a.size:Int)<1))||(decide (24<(↑a.size:Int))))||(a==(ByteArray.mk #[111,117,116]))) (some true) ((UQ a 0).bind λb=>
 some (decide (b<97)))).bind λc=>
 (cond c (some true) ((UQ a 0).bind λd=>
 some (decide (122<d)))).bind λg=>
 cond g (
 some false) (
 Ey N a (GA N) N 1)
def GW (N:Nat) (a:(List (AK×Bool))) (b:ByteArray) (d:ByteArray):Option (Bool×(List (AK×Bool))):=
 (H8 N b).bind λc=>
 cond ((!c)||((Of (λk:AK=>Value.agg (AK.v k).toArray) a (⟨d,b⟩:AK)).getD false)) (
 some (false,a)) (
 some (true,(Q0 (λk:AK=>Value.agg (AK.v k).toArray) a (⟨d,b⟩:AK) true)))
def IQ (N:Nat) (a:(List (AK×Bool))) (b:ByteArray) (c:ByteArray):Option (Bool×(List (AK×Bool))):=
 cond (b==(ByteArray.mk #[115,104,101,108,116,101,114])) (
 GW N a c (ByteArray.mk #[116,111,119,110])) (
 GW N a c b)
def Cx (N:Nat) (c2_:(List (AK×Bool))) (c3_:Bool) (a:ByteArray) (b:ByteArray):Option ((List (AK×Bool))×Bool):=
 (IQ N c2_ a b).bind λc=>
 some (c.2,(c.1&&c3_))
def DK (N:Nat) (a:AU) (d:Bool→((List (AK×Bool)))→Option Bool):Nat→Int→Bool→((List (AK×Bool)))→Option Bool
 |0,_,_,_=>none
 |k+1,c,g,i=>
 cond (decide (c<(↑a.D.length:Int))) (
 (ix a.D c).bind λj=>
 (Cx N i g (ByteArray.mk #[112,108,97,99,101]) j.J).bind λb=>
 DK N a d k (B8 (c+1)) b.2 b.1) (
 d g i)
def DJ (N:Nat) (a:AU) (i:Bool→((List (AK×Bool)))→Option Bool):Nat→Int→Bool→((List (AK×Bool)))→Option Bool
 |0,_,_,_=>none
 |k+1,b,c,d=>
 cond (decide (b<(↑a.F.length:Int))) (
 (ix a.F b).bind λj=>
 (Cx N d c (ByteArray.mk #[108,105,110,107]) j.J).bind λg=>
 DJ N a i k (B8 (b+1)) g.2 g.1) (
 i c d)
def DI (N:Nat) (a:AU) (i:Bool→((List (AK×Bool)))→Option Bool):Nat→Int→Bool→((List (AK×Bool)))→Option Bool
 |0,_,_,_=>none
 |k+1,b,c,d=>
 cond (decide (b<(↑a.Ac.length:Int))) (
 (ix a.Ac b).bind λj=>
 (Cx N d c (ByteArray.mk #[116,111,119,110]) j.J).bind λg=>
 DI N a i k (B8 (b+1)) g.2 g.1) (
 i c d)
def DH (N:Nat) (a:AU) (i:Bool→((List (AK×Bool)))→Option Bool):Nat→Int→Bool→((List (AK×Bool)))→Option Bool
 |0,_,_,_=>none
 |k+1,b,c,d=>
 cond (decide (b<(↑a.Aq.length:Int))) (
 (ix a.Aq b).bind λj=>
 (Cx N d c (ByteArray.mk #[115,104,101,108,116,101,114]) j.J).bind λg=>
 DH N a i k (B8 (b+1)) g.2 g.1) (
 i c d)
def C6 (N:Nat) (a:AU) (c:Bool→((List (AK×Bool)))→Option Bool):Nat→Int→Bool→((List (AK×Bool)))→Option Bool
 |0,_,_,_=>none
 |k+1,b,d,g=>
 cond (decide (b<(↑a.Am.length:Int))) (
 (ix a.Am b).bind λj=>
 (Cx N g d (ByteArray.mk #[103,97,117,103,101]) j.J).bind λi=>
 C6 N a c k (B8 (b+1)) i.2 i.1) (
 c d g)
def C5 (N:Nat) (a:AU) (c:Bool→Option Bool):Nat→Int→Bool→((List (AK×Bool)))→Option Bool
 |0,_,_,_=>none
 |k+1,b,d,i=>
 cond (decide (b<(↑a.An.length:Int))) (
 (ix a.An b).bind λj=>
 (Cx N i d (ByteArray.mk #[114,111,97,100]) j.J).bind λg=>
 C5 N a c k (B8 (b+1)) g.2 g.1) (
 c d)
def D4 (N:Nat) (a:Bool):Option Bool:=
 some a
def D5 (N:Nat) (a:AU) (b:Bool) (c:(List (AK×Bool))):Option Bool:=
 C5 N a (D4 N) N 0 b c
def EH (N:Nat) (a:AU) (b:Bool) (c:(List (AK×Bool))):Option Bool:=
 C6 N a (D5 N a) N 0 b c
def EI (N:Nat) (a:AU) (b:Bool) (c:(List (AK×Bool))):Option Bool:=
 DH N a (EH N a) N 0 b c
def EJ (N:Nat) (a:AU) (b:Bool) (c:(List (AK×Bool))):Option Bool:=
 DI N a (EI N a) N 0 b c
def EK (N:Nat) (a:AU) (b:Bool) (c:(List (AK×Bool))):Option Bool:=
 DJ N a (EJ N a) N 0 b c
def EL (N:Nat) (a:AU) (b:Bool) (c:(List (AK×Bool))):Option Bool:=
 DK N a (EK N a) N 0 b c
def DL (N:Nat) (a:AU) (c:Bool→((List (AK×Bool)))→Option Bool):Nat→Int→Bool→((List (AK×Bool)))→Option Bool
 |0,_,_,_=>none
 |k+1,b,d,g=>
 cond (decide (b<(↑a.Ar.length:Int))) (
 (ix a.Ar b).bind λj=>
 (Cx N g d (ByteArray.mk #[111,119,110,101,114]) j).bind λi=>
 DL N a c k (B8 (b+1)) i.2 i.1) (
 c d g)
def Hb (N:Nat) (a:AU):Option Bool:=
 DL N a (EL N a) N 0 true ([]:(List (AK×Bool)))
def Fu (N:Nat):Option Bool:=
 some true
def ED (N:Nat) (a:(List BC)) (d:Option Bool):Nat→Int→Option Bool
 |0,_=>none
 |l+1,c=>
 cond (decide (c<(↑a.length:Int))) (
 (ix a c).bind λb=>
 cond ((((decide (b.G<0))||(decide (1125899906842624<b.G)))||(decide (b.L<0)))||(decide (1125899906842624<b.L))) (
 some false) (
 (cond (decide (0<c)) ((ix a (B8 (c-1))).bind λg=>
 (cond (decide (b.G≤g.G)) (some true) ((ix a (B8 (c-1))).bind λi=>
 some (decide (b.L<i.L)))).bind λj=>
 some j) (some false)).bind λk=>
 cond k (
 some false) (
 ED N a d l (B8 (c+1))))) (
 d)
def EE (N:Nat) (a:(List BC)):Option Bool:=
 cond ((decide ((↑a.length:Int)<1))||(decide (32<(↑a.length:Int)))) (
 some false) (
 ED N a (Fu N) N 0)
def Fv (N:Nat) (a:Int) (b:Int):Option Bool:=
 (CT N a).bind λc=>
 (cond c ((CT N b).bind λd=>
 some d) (some false)).bind λg=>
 some (g&&((decide (b≠0))||(decide (a=0))))
def Ej (N:Nat) (b:Int) (a:Int):Option Bool:=
 (Cc N b 0 (B8 (a-1))).bind λc=>
 some c
def HS (N:Nat) (c:AU) (b:Int) (a:Int):Option Bool:=
 (cond (decide (a=(-1))) (some true) ((Ej N a (↑c.D.length:Int)).bind λd=>
 some (d&&(decide (a≠b))))).bind λg=>
 some g
def CG (N:Nat) (a:Int):Option Bool:=
 some (decide (a≤1125899906842624))
def C4 (N:Nat) (d:EM) (g:Int→Option Bool):Nat→Int→Int→Option Bool
 |0,_,_=>none
 |j+1,b,a=>
 cond (decide (a<(↑d.Bg.length:Int))) (
 (ix d.Bg a).bind λc=>
 (CT N c).bind λi=>
 cond (!i) (
 some false) (
 C4 N d g j (B8 (b+c)) (B8 (a+1)))) (
 g b)
def C3 (N:Nat) (c:AU) (g:EM) (d:Int) (i:Int→Option Bool):Nat→Int→Int→Option Bool
 |0,_,_=>none
 |m+1,j,b=>
 cond (decide (b<(↑g.Ai.length:Int))) (
 (ix g.Ai b).bind λa=>
 (cond ((decide (a.Bf≤j))||(decide (c.W≤a.Bf))) (some true) ((CT N a.Bo).bind λk=>
 some (!k))).bind λl=>
 cond l (
 some false) (
 C3 N c g d i m a.Bf (B8 (b+1)))) (
 i d)
def D3 (N:Nat) (a:AU) (c:EM) (d:Int→Option Bool) (b:Int):Option Bool:=
 C3 N a c b d N (-1) 0
def Cg (N:Nat) (a:Int) (b:Int→Int→Option Bool) (c:Int):Option Bool:=
 b c (B8 (a+1))
def B5 (N:Nat) (b:AU) (d:Int→Option Bool):Nat→Int→Int→Option Bool
 |0,_,_=>none
 |y+1,g,c=>
 cond (decide (c<(↑b.D.length:Int))) (
 (ix b.D c).bind λa=>
 (Cc N a.C 0 3).bind λj=>
 (cond (!j) (some true) ((Cc N a.Aj 0 2).bind λk=>
 some (!k))).bind λl=>
 (cond l (some true) ((Cc N a.V 0 240).bind λm=>
 some (!m))).bind λn=>
 (cond n (some true) ((CT N a.Ag).bind λo=>
 some (!o))).bind λp=>
 (cond p (some true) ((CT N a.Ax).bind λq=>
 some (!q))).bind λs=>
 (cond s (some true) ((EE N a.Av).bind λt=>
 some (!t))).bind λu=>
 (cond (u||(decide ((↑a.Bg.length:Int)≠(↑b.Ar.length:Int)))) (some true) ((Fv N a.N a.H).bind λv=>
 some (!v))).bind λw=>
 (cond w (some true) ((HS N b c a.Ao).bind λi=>
 some (!i))).bind λx=>
 cond x (
 some false) (
 C4 N a (D3 N b a (Cg N c (B5 N b d y))) N g 0)) (
 d g)
def G9 (N:Nat) (a:AU):Option Bool:=
 B5 N a (CG N) N 0 0
def HM (N:Nat) (a:Int):Option Int:=
 some a
def FE (N:Nat) (b:(Int→Option Bool)) (d:Int→Option Int):Nat→Int→Int→Option Int
 |0,_,_=>none
 |i+1,a,c=>
 cond (decide (a<c)) (
 (b (B8 (Du .u64 (IntKind.wrap .u64 (B8 (a+c))) 1))).bind λg=>
 cond (!g) (
 FE N b d i (B8 ((B8 (Du .u64 (IntKind.wrap .u64 (B8 (a+c))) 1))+1)) c) (
 FE N b d i a (B8 (Du .u64 (IntKind.wrap .u64 (B8 (a+c))) 1)))) (
 d a)
def JK (N:Nat) (a:Int) (b:(Int→Option Bool)):Option Int:=
 FE N b (HM N) N 0 a
def Eh (N:Nat) (b:(List BC)) (c2_:Int) (a:Int):Option Bool:=
 (ix b a).bind λc=>
 some (decide (c2_<c.G))
def F8 (N:Nat) (a:Int) (b:Int):Option (Int×Int):=
 some ((IntKind.wrap .u64 ((IntKind.wrap .u64 ((IntKind.wrap .u64 ((Du .u64 a 32)*(Du .u64 b 32)))+(Du .u64 (IntKind.wrap .u64 ((IntKind.wrap .u64 ((Du .u64 a 32)*(Gj .and .u64 b 4294967295)))+(Du .u64 (IntKind.wrap .u64 ((Gj .and .u64 a 4294967295)*(Gj .and .u64 b 4294967295))) 32))) 32)))+(Du .u64 (IntKind.wrap .u64 ((Gj .and .u64 (IntKind.wrap .u64 ((IntKind.wrap .u64 ((Du .u64 a 32)*(Gj .and .u64 b 4294967295)))+(Du .u64 (IntKind.wrap .u64 ((Gj .and .u64 a 4294967295)*(Gj .and .u64 b 4294967295))) 32))) 4294967295)+(IntKind.wrap .u64 ((Gj .and .u64 a 4294967295)*(Du .u64 b 32))))) 32))),(IntKind.wrap .u64 (a*b)))
def FG (N:Nat) (a:Int) (b:Int):Option Int:=
 (UQ Ka (IntKind.wrap .u8 a)).bind λc=>
 some (B8 (b+(B8 c)))
def FH (N:Nat) (a:Int) (b:Int):Option Int:=
 cond (decide (256≤a)) (
 FG N (Du .u64 a 8) (B8 (b+8))) (
 FG N a b)
def FI (N:Nat) (a:Int) (b:Int):Option Int:=
 cond (decide (65536≤a)) (
 FH N (Du .u64 a 16) (B8 (b+16))) (
 FH N a b)
def Gv (N:Nat) (a:Int):Option Int:=
 cond (decide (4294967296≤a)) (
 FI N (Du .u64 a 32) 32) (
 FI N a 0)
def EW (N:Nat) (a:Int):Option Int:=
 (Gv N a).bind λb=>
 some (B8 (64-b))
def DY (N:Nat) (b:Int) (a:Int) (d:Nat) (j:Nat) (g:Int→Option (Int×Int)):Nat→Int→Int→Option (Int×Int)
 |0,_,_=>none
 |k+1,i,c=>
 cond ((decide (4294967296≤c))||(decide ((IntKind.wrap .u64 ((IntKind.wrap .u64 (4294967296*i))+(Gj .and .u64 (DV .u64 b j) 4294967295)))<(IntKind.wrap .u64 (c*(Gj .and .u64 (DV .u64 a d) 4294967295)))))) (
 cond (decide (4294967296≤(IntKind.wrap .u64 (i+(Du .u64 (DV .u64 a d) 32))))) (
 g (IntKind.wrap .u64 (c-1))) (
 DY N b a d j g k (IntKind.wrap .u64 (i+(Du .u64 (DV .u64 a d) 32))) (IntKind.wrap .u64 (c-1)))) (
 g c)
def EX (N:Nat) (c:Int) (a:Int) (b:Int) (n:Int) (d:Nat) (k:Nat) (l:Nat) (g:Nat) (i:Int) (j:Int):Option (Int×Int):=
 (M8 (IntKind.wrap .u64 n)).bind λm=>
 some ((IntKind.wrap .u64 ((IntKind.wrap .u64 (i*4294967296))+j)),(Du .u64 (IntKind.wrap .u64 ((IntKind.wrap .u64 ((IntKind.wrap .u64 ((IntKind.wrap .u64 ((IntKind.wrap .u64 ((IntKind.wrap .u64 ((Gj .or .u64 (DV .u64 c k) (Du .u64 a l))*4294967296))+(Du .u64 (DV .u64 a g) 32)))-(IntKind.wrap .u64 (i*(DV .u64 b d)))))*4294967296))+(Gj .and .u64 (DV .u64 a g) 4294967295)))-(IntKind.wrap .u64 (j*(DV .u64 b d))))) m))
def DZ (N:Nat) (c:Int) (a:Int) (b:Int) (m:Int) (d:Nat) (i:Nat) (j:Nat) (g:Nat) (k:Int):Option (Int×Int):=
 (Od .u64 (IntKind.wrap .u64 ((IntKind.wrap .u64 ((IntKind.wrap .u64 ((Gj .or .u64 (DV .u64 c i) (Du .u64 a j))*4294967296))+(Du .u64 (DV .u64 a g) 32)))-(IntKind.wrap .u64 (k*(DV .u64 b d))))) (Du .u64 (DV .u64 b d) 32)).bind λl=>
 DY N a b d g (EX N c a b m d i j g k) N (IntKind.wrap .u64 ((IntKind.wrap .u64 ((IntKind.wrap .u64 ((IntKind.wrap .u64 ((Gj .or .u64 (DV .u64 c i) (Du .u64 a j))*4294967296))+(Du .u64 (DV .u64 a g) 32)))-(IntKind.wrap .u64 (k*(DV .u64 b d)))))-(IntKind.wrap .u64 (l*(Du .u64 (DV .u64 b d) 32))))) l
def C7 (N:Nat) (b:Int) (a:Int) (d:Nat) (j:Nat) (g:Int→Option (Int×Int)):Nat→Int→Int→Option (Int×Int)
 |0,_,_=>none
 |k+1,c,i=>
 cond ((decide (4294967296≤c))||(decide ((IntKind.wrap .u64 ((IntKind.wrap .u64 (4294967296*i))+(Du .u64 (DV .u64 b j) 32)))<(IntKind.wrap .u64 (c*(Gj .and .u64 (DV .u64 a d) 4294967295)))))) (
 cond (decide (4294967296≤(IntKind.wrap .u64 (i+(Du .u64 (DV .u64 a d) 32))))) (
 g (IntKind.wrap .u64 (c-1))) (
 C7 N b a d j g k (IntKind.wrap .u64 (c-1)) (IntKind.wrap .u64 (i+(Du .u64 (DV .u64 a d) 32))))) (
 g c)
def Ew (N:Nat) (c:Int) (b:Int) (a:Int):Option (Int×Int):=
 cond (decide (a=0)) (
 none) (
 cond (decide (a≤c)) (
 none) (
 cond (decide (c=0)) (
 (Od .u64 b a).bind λm=>
 (Qv b a).bind λn=>
 some (m,n)) (
 (EW N a).bind λj=>
 (M8 (IntKind.wrap .u64 j)).bind λd=>
 (M8 (IntKind.wrap .u64 j)).bind λg=>
 (M8 (IntKind.wrap .u64 (64-(IntKind.wrap .u64 j)))).bind λi=>
 (M8 (IntKind.wrap .u64 j)).bind λk=>
 (Od .u64 (Gj .or .u64 (DV .u64 c g) (Du .u64 b i)) (Du .u64 (DV .u64 a d) 32)).bind λl=>
 C7 N b a d k (DZ N c b a j d g i k) N l (IntKind.wrap .u64 ((Gj .or .u64 (DV .u64 c g) (Du .u64 b i))-(IntKind.wrap .u64 (l*(Du .u64 (DV .u64 a d) 32))))))))
def Fa (N:Nat) (c:Int) (b:Int) (a:Int):Option (Int×Int×Bool):=
 cond ((((((decide (c<0))||(decide (1125899906842624<c)))||(decide (b<0)))||(decide (1125899906842624<b)))||(decide (a<1)))||(decide (1125899906842624<a))) (
 some (0,0,false)) (
 (F8 N (IntKind.wrap .u64 c) (IntKind.wrap .u64 b)).bind λg=>
 cond (decide ((IntKind.wrap .u64 a)≤g.1)) (
 some (0,0,false)) (
 (Ew N g.1 g.2 (IntKind.wrap .u64 a)).bind λd=>
 cond (decide (1125899906842624<d.1)) (
 some (0,0,false)) (
 some ((B8 d.1),(B8 d.2),true))))
def EB (N:Nat) (a:(List BC)) (d:Int):Option (Int×Bool):=
 (JK N (↑a.length:Int) (λx=>Eh N a d x)).bind λb=>
 cond (decide (b=0)) (
 (ix a 0).bind λi=>
 some (i.L,false)) (
 (ix a (B8 (b-1))).bind λc=>
 cond (decide (b=(↑a.length:Int))) (
 some (c.L,false)) (
 (ix a b).bind λj=>
 (ix a b).bind λk=>
 (Fa N (B8 (d-c.G)) (B8 (j.L-c.L)) (B8 (k.G-c.G))).bind λg=>
 some ((B8 (c.L+g.1)),(decide (0<g.2.1)))))
def DW (N:Nat) (b:(List BC)) (a:(List BC)) (i:Option Bool):Nat→Int→Option Bool
 |0,_=>none
 |j+1,c=>
 cond (decide (c<(↑a.length:Int))) (
 (ix a c).bind λd=>
 (EB N b d.G).bind λg=>
 cond ((decide (d.L<g.1))||((decide (g.1=d.L))&&g.2)) (
 some false) (
 DW N b a i j (B8 (c+1)))) (
 i)
def Ep (N:Nat):Option Bool:=
 some true
def C0 (N:Nat) (a:(List BC)) (b:(List BC)):Option Bool:=
 DW N a b (Ep N) N 0
def DA (N:Nat) (a:(List BC)) (b:(List BC)) (d:Option Bool):Nat→Int→Option Bool
 |0,_=>none
 |j+1,c=>
 cond (decide (c<(↑a.length:Int))) (
 (ix a c).bind λg=>
 (EB N b g.G).bind λi=>
 cond (decide (i.1<g.L)) (
 some false) (
 DA N a b d j (B8 (c+1)))) (
 d)
def EC (N:Nat) (a:(List BC)) (b:(List BC)):Option Bool:=
 (EE N a).bind λc=>
 (cond (!c) (some true) ((EE N b).bind λd=>
 some (!d))).bind λg=>
 cond g (
 some false) (
 DA N a b (C0 N a b) N 0)
def Dd (N:Nat) (a:A7) (b:Bool):Option Bool:=
 cond b (
 (CT N a.O).bind λc=>
 (cond c ((CT N a.N).bind λd=>
 some d) (some false)).bind λg=>
 (cond g ((Cc N a.H 1 1125899906842624).bind λi=>
 some i) (some false)).bind λj=>
 some j) (
 cond (decide (a.C=2)) (
 (CT N a.N).bind λk=>
 (cond k ((Cc N a.Q 1 64).bind λl=>
 some l) (some false)).bind λm=>
 (cond m ((Cc N a.Ab 0 a.Q).bind λn=>
 some n) (some false)).bind λo=>
 some o) (
 cond (decide (a.C=3)) (
 (CT N a.N).bind λp=>
 (cond p ((Cc N a.H 1 1125899906842624).bind λq=>
 some q) (some false)).bind λs=>
 (cond s ((CT N a.Ak).bind λt=>
 some t) (some false)).bind λu=>
 (cond u ((CT N a.Ae).bind λv=>
 some v) (some false)).bind λw=>
 some (w&&(decide (a.Ae<a.Ak)))) (
 (CT N a.N).bind λx=>
 (cond x ((Cc N a.H 1 1125899906842624).bind λy=>
 some y) (some false)).bind λz=>
 (cond z ((Fv N a.Aa a.Y).bind λA=>
 some A) (some false)).bind λB=>
 some (B&&(decide (a.E≠(-1)))))))
def Ev (N:Nat) (a:A7):Option Bool:=
 cond (decide (a.C=0)) (
 (EE N a.Af).bind λb=>
 (cond b ((EE N a.U.B).bind λc=>
 some c) (some false)).bind λd=>
 (cond d ((EE N a.U.A).bind λg=>
 some g) (some false)).bind λi=>
 (cond i ((EC N a.U.B a.Af).bind λj=>
 some j) (some false)).bind λk=>
 (cond k ((EC N a.Af a.U.A).bind λl=>
 some l) (some false)).bind λm=>
 (cond m ((Cc N a.Q 0 64).bind λn=>
 some n) (some false)).bind λo=>
 (cond o ((Cc N a.Ab 0 a.Q).bind λp=>
 some p) (some false)).bind λq=>
 (cond q ((CT N a.Ad).bind λs=>
 some s) (some false)).bind λt=>
 (cond t ((Fv N a.Aa a.Y).bind λu=>
 some u) (some false)).bind λv=>
 some (v&&((decide (a.E≠(-1)))||(decide (a.Y=0))))) (
 cond (decide (a.C=1)) (
 Dd N a (decide (a.C=1))) (
 Dd N a (decide (a.C=5))))
def Eu (N:Nat) (a:A7):Option Bool:=
 cond ((!(decide (a.C=0)))&&((((decide (0<(↑a.Af.length:Int)))||(decide (0<(↑a.U.B.length:Int))))||(decide (0<(↑a.U.A.length:Int))))||(decide (a.Ad≠0)))) (
 some false) (
 cond (((!(decide (a.C=0)))&&(decide (a.C≠2)))&&((decide (a.Q≠0))||(decide (a.Ab≠0)))) (
 some false) (
 cond (((decide (a.C≠1))&&(decide (a.C≠5)))&&(decide (a.O≠0))) (
 some false) (
 cond (((decide (a.C=0))&&(decide (a.N≠0)))||(((decide (a.C=0))||(decide (a.C=2)))&&(decide (a.H≠0)))) (
 some false) (
 cond ((decide (a.C≠3))&&((decide (a.Ak≠0))||(decide (a.Ae≠0)))) (
 some false) (
 some (((decide (a.C=0))||(decide (a.C=4)))||((decide (a.Aa=0))&&(decide (a.Y=0)))))))))
def DM (N:Nat):Option Bool:=
 some true
def Cd (N:Nat) (a:AU) (d:Option Bool):Nat→Int→Option Bool
 |0,_=>none
 |t+1,c=>
 cond (decide (c<(↑a.F.length:Int))) (
 (ix a.F c).bind λb=>
 (Cc N b.C 0 5).bind λg=>
 (cond (!g) (some true) ((Ej N b.I (↑a.D.length:Int)).bind λi=>
 some (!i))).bind λj=>
 (cond j (some true) ((HS N a b.I b.E).bind λk=>
 some (!k))).bind λl=>
 (cond l (some true) ((Cc N b.V 0 240).bind λm=>
 some (!m))).bind λn=>
 (cond n (some true) ((Ev N b).bind λo=>
 some (!o))).bind λp=>
 (cond p (some true) ((Eu N b).bind λq=>
 some (!q))).bind λs=>
 cond s (
 some false) (
 Cd N a d t (B8 (c+1)))) (
 d)
def EY (N:Nat) (a:AU):Option Bool:=
 Cd N a (DM N) N 0
def IF (N:Nat) (c:AU) (a:Int) (b:Int):Option Bool:=
 cond (decide (b=(-1))) (
 some (decide (a=2))) (
 (ix c.D b).bind λd=>
 some ((decide (d.Aj=a))||(decide (d.Aj=(B8 (a+1))))))
def DP (N:Nat) (a:AU) (g:Option Bool):Nat→Int→Option Bool
 |0,_=>none
 |m+1,d=>
 cond (decide (d<(↑a.F.length:Int))) (
 (ix a.F d).bind λb=>
 (ix a.D b.I).bind λc=>
 (IF N a c.Aj b.E).bind λi=>
 (cond (!i) (some true) ((cond (decide (b.C=4)) ((ix a.D b.E).bind λj=>
 some (decide (j.Aj≠c.Aj))) (some false)).bind λk=>
 some k)).bind λl=>
 cond l (
 some false) (
 DP N a g m (B8 (d+1)))) (
 g)
def ET (N:Nat):Option Bool:=
 some true
def DR (N:Nat) (a:AU):Option Bool:=
 DP N a (ET N) N 0
def DQ (N:Nat) (a:AU) (c:Option Bool):Nat→Int→Option Bool
 |0,_=>none
 |i+1,b=>
 cond (decide (b<(↑a.D.length:Int))) (
 (ix a.D b).bind λd=>
 (IF N a d.Aj d.Ao).bind λg=>
 cond (!g) (
 some false) (
 DQ N a c i (B8 (b+1)))) (
 c)
def F5 (N:Nat) (a:AU):Option Bool:=
 DQ N a (DR N a) N 0
def GV (N:Nat) (a:Int):Option Int:=
 some (B8 a)
def Dt (N:Nat) (b:Int) (a:Int):Option Int:=
 cond (decide (a=0)) (
 some 0) (
 cond (decide (a<b)) (
 some 1099511627777) (
 (F8 N (IntKind.wrap .u64 b) 1099511627776).bind λd=>
 (Ew N d.1 d.2 (IntKind.wrap .u64 a)).bind λc=>
 cond (decide (c.2≠0)) (
 GV N (IntKind.wrap .u64 (c.1+1))) (
 GV N c.1)))
def CP (N:Nat) (a:Int):Option Int:=
 some a
def CO (N:Nat) (a:(List BC)) (c:Int→Option Int):Nat→Int→Int→Option Int
 |0,_,_=>none
 |m+1,d,b=>
 cond (decide (b<(↑a.length:Int))) (
 (ix a b).bind λg=>
 (ix a (B8 (b-1))).bind λi=>
 (ix a b).bind λj=>
 (ix a (B8 (b-1))).bind λk=>
 (Dt N (B8 (g.L-i.L)) (B8 (j.G-k.G))).bind λl=>
 CO N a c m (max d l) (B8 (b+1))) (
 c d)
def Ci (N:Nat) (a:Int) (b:Int→Int→Option Int) (c:Int):Option Int:=
 b c (B8 (a+1))
def CB (N:Nat) (a:(List (List BC))) (c:Int→Option Int):Nat→Int→Int→Option Int
 |0,_,_=>none
 |i+1,g,b=>
 cond (decide (b<(↑a.length:Int))) (
 (ix a b).bind λd=>
 CO N d (Ci N b (CB N a c i)) N g 1) (
 c g)
def Er (N:Nat) (a:(List (List BC))):Option Int:=
 CB N a (CP N) N 0 0
def B3 (N:Nat) (b:Int) (c:Int→(List Int)→Option Bool) (a:List Int):Option Bool:=
 c (B8 (b+1)) a
def Cv (N:Nat) (b:List Int) (a:A7) (g:(List Int)→Option Bool) (i:Bool):Option Bool:=
 cond i (
 (ix b a.I).bind λn=>
 (ix b a.I).bind λj=>
 (Dt N a.N a.H).bind λk=>
 (ix b a.I).bind λo=>
 (ix b a.I).bind λp=>
 g (upd b a.I (B8 (j+k)))) (
 cond (decide (a.C=4)) (
 (ix b a.I).bind λq=>
 (ix b a.I).bind λc=>
 (Dt N a.N a.H).bind λd=>
 (ix b a.I).bind λs=>
 (ix b a.I).bind λt=>
 (ix (upd b a.I (B8 (c+(B8 (2*d))))) a.E).bind λu=>
 (ix (upd b a.I (B8 (c+(B8 (2*d))))) a.E).bind λl=>
 (Dt N a.Aa a.Y).bind λm=>
 (ix (upd b a.I (B8 (c+(B8 (2*d))))) a.E).bind λv=>
 (ix (upd b a.I (B8 (c+(B8 (2*d))))) a.E).bind λw=>
 g (upd (upd b a.I (B8 (c+(B8 (2*d))))) a.E (B8 (l+(B8 (2*m)))))) (
 g b))
def GM (N:Nat) (b:Bool→Option Bool) (a:Bool):Option Bool:=
 b a
def BI (N:Nat) (c:AU) (j:(List Int)→Option Bool):Nat→Int→(List Int)→Option Bool
 |0,_,_=>none
 |k+1,i,b=>
 cond (decide (i<(↑c.F.length:Int))) (
 (ix c.F i).bind λa=>
 cond (decide (a.C=0)) (
 (ix b a.I).bind λn=>
 (ix b a.I).bind λd=>
 (Er N ([a.Af,a.U.B,a.U.A]:List (List BC))).bind λg=>
 (ix b a.I).bind λo=>
 (ix b a.I).bind λp=>
 cond (decide (a.E≠(-1))) (
 (ix (upd b a.I (B8 (d+g))) a.E).bind λq=>
 (ix (upd b a.I (B8 (d+g))) a.E).bind λl=>
 (Dt N a.Aa a.Y).bind λm=>
 (ix (upd b a.I (B8 (d+g))) a.E).bind λs=>
 (ix (upd b a.I (B8 (d+g))) a.E).bind λt=>
 B3 N i (BI N c j k) (upd (upd b a.I (B8 (d+g))) a.E (B8 (l+m)))) (
 B3 N i (BI N c j k) (upd b a.I (B8 (d+g))))) (
 cond (decide (a.C=1)) (
 Cv N b a (B3 N i (BI N c j k)) (decide (a.C=1))) (
 cond (decide (a.C=5)) (
 GM N (Cv N b a (B3 N i (BI N c j k))) (decide (a.C=5))) (
 GM N (Cv N b a (B3 N i (BI N c j k))) (decide (a.C=3)))))) (
 j b)
def CU (N:Nat) (b:List Int) (c:Option Bool):Nat→Int→Option Bool
 |0,_=>none
 |i+1,a=>
 cond (decide (a<(↑b.length:Int))) (
 (ix b a).bind λg=>
 (ix b a).bind λd=>
 cond (decide (1099511627776<d)) (
 some false) (
 CU N b c i (B8 (a+1)))) (
 c)
def C2 (N:Nat):Option Bool:=
 some true
def B4 (N:Nat) (a:List Int):Option Bool:=
 CU N a (C2 N) N 0
def CF (N:Nat) (a:AU) (b:List Int):Option Bool:=
 BI N a (B4 N) N 0 b
def CV (N:Nat) (b:AU) (d:(List Int)→Option Bool):Nat→Int→(List Int)→Option Bool
 |0,_,_=>none
 |j+1,a,c=>
 cond (decide (a<(↑b.D.length:Int))) (
 (ix b.D a).bind λg=>
 (Dt N g.N g.H).bind λi=>
 (ix c a).bind λk=>
 (ix c a).bind λl=>
 CV N b d j (B8 (a+1)) (upd c a i)) (
 d c)
def EG (N:Nat) (a:AU):Option Bool:=
 chk (Kj (↑a.D.length:Int) (↑a.D.length:Int) 8) <|
 CV N a (CF N a) N 0 (List.replicate ((↑a.D.length:Int):Int).toNat (0:Int))
def Di (N:Nat) (a:AU) (c:Option Bool):Nat→Int→Option Bool
 |0,_=>none
 |i+1,b=>
 cond (decide (b<(↑a.Aq.length:Int))) (
 (ix a.Aq b).bind λd=>
 (Cc N d.Ap 0 1073741824).bind λg=>
 cond (!g) (
 some false) (
 Di N a c i (B8 (b+1)))) (
 c)
def E4 (N:Nat):Option Bool:=
 some true
def Dk (N:Nat) (a:AU):Option Bool:=
 Di N a (E4 N) N 0
def Dj (N:Nat) (a:AU) (d:Option Bool):Nat→Int→Option Bool
 |0,_=>none
 |t+1,c=>
 cond (decide (c<(↑a.Ac.length:Int))) (
 (ix a.Ac c).bind λb=>
 (Ej N b.Ah (↑a.D.length:Int)).bind λg=>
 (cond (!g) (some true) ((CT N b.Bc).bind λi=>
 some (!i))).bind λj=>
 (cond j (some true) ((Cc N b.Az 0 24).bind λk=>
 some (!k))).bind λl=>
 (cond l (some true) ((Cc N b.Bh 0 1073741824).bind λm=>
 some (!m))).bind λn=>
 (cond n (some true) ((CT N b.Bd).bind λo=>
 some (!o))).bind λp=>
 (cond p (some true) ((Cc N b.Aw 0 128).bind λq=>
 some (!q))).bind λs=>
 cond s (
 some false) (
 Dj N a d t (B8 (c+1)))) (
 d)
def Gd (N:Nat) (a:AU):Option Bool:=
 Dj N a (Dk N a) N 0
def Es (N:Nat):Option Bool:=
 some true
def Dc (N:Nat) (a:AU) (d:Option Bool):Nat→Int→Option Bool
 |0,_=>none
 |o+1,c=>
 cond (decide (c<(↑a.Am.length:Int))) (
 (ix a.Am c).bind λb=>
 (Cc N b.C 0 2).bind λg=>
 (cond (!g) (some true) ((Cc N b.Z 0 1099511627776).bind λi=>
 some (!i))).bind λj=>
 (cond j (some true) ((Cc N b.Bl 0 1440).bind λk=>
 some (!k))).bind λl=>
 cond l (
 some false) (
 (ix ([(↑a.D.length:Int),a.W,(↑a.F.length:Int)]:List Int) b.C).bind λm=>
 (Ej N b.T m).bind λn=>
 cond (!n) (
 some false) (
 Dc N a d o (B8 (c+1))))) (
 d)
def GH (N:Nat) (a:AU):Option Bool:=
 Dc N a (Es N) N 0
def E5 (N:Nat):Option Bool:=
 some true
def Dl (N:Nat) (a:AU) (d:Option Bool):Nat→Int→Option Bool
 |0,_=>none
 |u+1,c=>
 cond (decide (c<(↑a.An.length:Int))) (
 (ix a.An c).bind λb=>
 (Ej N b.I (↑a.Ac.length:Int)).bind λg=>
 (cond (!g) (some true) ((Ej N b.E (B8 ((↑a.Ac.length:Int)+(↑a.Aq.length:Int)))).bind λi=>
 some (!i))).bind λj=>
 (cond (j||(decide (b.I=b.E))) (some true) ((Cc N b.Bp 1 24).bind λk=>
 some (!k))).bind λl=>
 (cond l (some true) ((Cc N b.Bq 0 1073741824).bind λm=>
 some (!m))).bind λn=>
 (cond n (some true) ((CT N b.Bk).bind λo=>
 some (!o))).bind λp=>
 cond p (
 some false) (
 (cond ((decide (b.Bi=(-1)))&&(decide (b.Bk≠0))) (some true) ((cond (decide (b.Bi≠(-1))) ((Ej N b.Bi (↑a.D.length:Int)).bind λq=>
 some (!q)) (some false)).bind λs=>
 some s)).bind λt=>
 cond t (
 some false) (
 Dl N a d u (B8 (c+1))))) (
 d)
def Ge (N:Nat) (a:AU):Option Bool:=
 Dl N a (E5 N) N 0
def G5 (N:Nat) (a:AU):Option Bool:=
 (G1 N a).bind λv=>
 (cond v ((Hb N a).bind λb=>
 some b) (some false)).bind λc=>
 (cond c ((G9 N a).bind λd=>
 some d) (some false)).bind λg=>
 (cond g ((EY N a).bind λi=>
 some i) (some false)).bind λj=>
 (cond j ((F5 N a).bind λk=>
 some k) (some false)).bind λl=>
 (cond l ((EG N a).bind λm=>
 some m) (some false)).bind λn=>
 (cond n ((Gd N a).bind λo=>
 some o) (some false)).bind λp=>
 (cond p ((GH N a).bind λq=>
 some q) (some false)).bind λs=>
 (cond s ((Ge N a).bind λt=>
 some t) (some false)).bind λu=>
 some u
def H2 (N:Nat) (a:AH) (b:AH):Option AH:=
 some (⟨(min a.B b.B),(max a.A b.A)⟩:AH)
def G4 (N:Nat) (b:AH) (a:AH):Option Bool:=
 (H2 N b a).bind λc=>
 some (P3 c.v a.v)
def GK (N:Nat) (b:Int) (a:Int):Option Bool:=
 some ((decide (0≤b))&&(decide (b<a)))
def Hi (N:Nat) (a:Int):Option Bool:=
 some (decide (a≠a))
def F9 (N:Nat) (a:Int) (b:Int):Option Int:=
 (Hi N a).bind λd=>
 (Hi N b).bind λc=>
 cond d (
 cond c (
 some 0) (
 some (-1))) (
 cond c (
 some 1) (
 cond (decide (a<b)) (
 some (-1)) (
 cond (decide (b<a)) (
 some 1) (
 some 0))))
def Hj (N:Nat):Option Int:=
 some 0
def Gn (N:Nat) (a:(List Int)) (b:Option Int):Nat→Int→Option Int
 |0,_=>none
 |g+1,d=>
 cond (decide (d<(↑a.length:Int))) (
 (ix a d).bind λc=>
 cond (decide (c≠0)) (
 some c) (
 Gn N a b g (B8 (d+1)))) (
 b)
def Iw (N:Nat) (a:(List Int)):Option Int:=
 Gn N a (Hj N) N 0
def Eo (N:Nat) (a:B9) (b:B9):Option Int:=
 (F9 N a.X b.X).bind λc=>
 (F9 N a.E b.E).bind λd=>
 (Iw N ([c,d]:List Int)).bind λg=>
 some g
def H3 (N:Nat) (a:AH) (b:Int):Option Bool:=
 some ((decide (a.B≤b))&&(decide (b≤a.A)))
def E2 (N:Nat) (a:Int):Option AH:=
 some (⟨a,a⟩:AH)
def GT (N:Nat) (b:A7) (a:BA):Option Bool:=
 (EO N a.P).bind λj=>
 (cond (!j) (some true) ((G4 N a.P (⟨0,b.Q⟩:AH)).bind λk=>
 some (!k))).bind λl=>
 (cond l (some true) ((H3 N (⟨0,b.Q⟩:AH) a.T).bind λm=>
 some (!m))).bind λn=>
 cond n (
 some false) (
 (E2 N 0).bind λc=>
 (E2 N 1).bind λd=>
 cond ((decide (b.C≠5))&&(decide (b.C≠3))) (
 some (P3 a.R.v c.v)) (
 (cond ((P3 a.R.v c.v)||(P3 a.R.v d.v)) (some true) ((H2 N c d).bind λg=>
 some (P3 a.R.v g.v))).bind λi=>
 some i))
def Ec (N:Nat) (d:AU) (b:Cf) (g:Option Bool):Nat→Int→Option Bool
 |0,_=>none
 |q+1,c=>
 cond (decide (c<(↑b.S.length:Int))) (
 (ix b.S c).bind λa=>
 (EO N a.M).bind λi=>
 (cond (!i) (some true) ((G4 N a.M (⟨0,1125899906842624⟩:AH)).bind λj=>
 some (!j))).bind λk=>
 (cond ((k||(decide (a.M.A≤0)))||(decide (a.X<b.K))) (some true) ((GK N a.E (↑d.D.length:Int)).bind λl=>
 some (!l))).bind λm=>
 cond m (
 some false) (
 (cond (decide (0<c)) ((ix b.S (B8 (c-1))).bind λn=>
 (Eo N n a).bind λo=>
 some (decide (0≤o))) (some false)).bind λp=>
 cond p (
 some false) (
 Ec N d b g q (B8 (c+1))))) (
 g)
def Eb (N:Nat) (c:AU) (b:Cf) (d:Option Bool):Nat→Int→Option Bool
 |0,_=>none
 |k+1,a=>
 cond (decide (a<(↑b.F.length:Int))) (
 (ix b.F a).bind λg=>
 (ix c.F a).bind λi=>
 (GT N i g).bind λj=>
 cond (!j) (
 some false) (
 Eb N c b d k (B8 (a+1)))) (
 d)
def E9 (N:Nat):Option Bool:=
 some true
def Ee (N:Nat) (a:AU) (b:Cf):Option Bool:=
 Eb N a b (E9 N) N 0
def Ef (N:Nat) (a:AU) (b:Cf):Option Bool:=
 Ec N a b (Ee N a b) N 0
def Ed (N:Nat) (a:Cf) (c:Option Bool):Nat→Int→Option Bool
 |0,_=>none
 |k+1,b=>
 cond (decide (b<(↑a.M.length:Int))) (
 (ix a.M b).bind λd=>
 (EO N d).bind λg=>
 (cond (!g) (some true) ((G4 N d (⟨0,1125899906842624⟩:AH)).bind λi=>
 some (!i))).bind λj=>
 cond j (
 some false) (
 Ed N a c k (B8 (b+1)))) (
 c)
def It (N:Nat) (b:AU) (a:Cf):Option Bool:=
 cond ((((decide (a.K<0))||(decide (16777216<a.K)))||(decide ((↑a.M.length:Int)≠(↑b.D.length:Int))))||(decide ((↑a.F.length:Int)≠(↑b.F.length:Int)))) (
 some false) (
 Ed N a (Ef N b a) N 0)
def JL (N:Nat) (c:AU) (d:Cf) (g:Cr) (b:(List CW)) (a:(List Bool)) (i:Int):Option (Cf×Int×(List CW)×AU×(List Bool)×Cr):=
 some (d,i,b,c,a,g)
def Iy (N:Nat) (a:List AH):Option (List AH):=
 some a
def JC (N:Nat) (c:Cr) (b:Int) (a:Int):Option (List AH):=
 cond ((decide (a<1))||(decide (64<a))) (
 some ([]:List AH)) (
 chk (Kj a a 16) <|
 cond (decide (b<c.I)) (
 some (List.replicate (a:Int).toNat ((⟨0,0⟩:AH):AH))) (
 cond ((decide (0≤(B8 (b-c.I))))&&(decide ((B8 (b-c.I))<(↑c.Ai.length:Int)))) (
 (ix c.Ai (B8 (b-c.I))).bind λd=>
 Iy N (XX (List.replicate (a:Int).toNat ((⟨0,0⟩:AH):AH)) d)) (
 Iy N (List.replicate (a:Int).toNat ((⟨0,0⟩:AH):AH)))))
def Cu (N:Nat) (a:(List AH)):Option (List AH):=
 chk (room (([]:List AH).length+a.length) 16) <|
 some (([]:List AH)++a)
def Cp (N:Nat) (a:(List BA)):Option (List BA):=
 chk (room (([]:List BA).length+a.length) 40) <|
 some (([]:List BA)++a)
def GQ (N:Nat) (c:Int) (b:Int) (a:Int):Option Int:=
 cond (decide (c<b)) (
 some b) (
 cond (decide (a<c)) (
 some a) (
 some c))
def IP (N:Nat) (a:Et) (b:Int):Option Et:=
 some ({ a with T:=b}:Et)
def J4 (N:Nat) (c:A7) (b:Et) (a:Int):Option Et:=
 cond (decide (c.Q≠0)) (
 (GQ N a 0 c.Q).bind λd=>
 IP N b d) (
 IP N b b.T)
def Dg (N:Nat) (b:Int) (a:Int):Option Int:=
 cond ((decide (a<0))&&(decide ((B8 (9223372036854775807+a))<b))) (
 some 9223372036854775807) (
 cond ((decide (0<a))&&(decide (b<(B8 ((-9223372036854775808)+a))))) (
 some (-9223372036854775808)) (
 some (B8 (b-a))))
def Ex (N:Nat) (b:Int) (a:Int):Option Int:=
 cond ((decide (0<a))&&(decide ((B8 (9223372036854775807-a))<b))) (
 some 9223372036854775807) (
 cond ((decide (a<0))&&(decide (b<(B8 ((-9223372036854775808)-a))))) (
 some (-9223372036854775808)) (
 some (B8 (b+a))))
def KU (N:Nat) (b:A7) (a:Et):Option Et:=
 cond a.Ay (
 some a) (
 (Dg N a.T a.P).bind λc=>
 (Dg N 0 b.Ab).bind λd=>
 (GQ N c d b.Ab).bind λg=>
 (Ex N a.P g).bind λi=>
 some ({ a with P:=i}:Et))
def HR (N:Nat) (b:A7) (c2_:BA) (a:Int):Option Int:=
 (KU N b (⟨a,c2_.T,false,false⟩:Et)).bind λc=>
 some c.P
def Iv (N:Nat) (b:A7) (a:BA) (c:Bool):Option BA:=
 cond c (
 (HR N b a a.P.B).bind λd=>
 (HR N b a a.P.A).bind λg=>
 some ({ a with P:=(⟨d,g⟩:AH)}:BA)) (
 (Dg N a.P.B b.Ab).bind λi=>
 (GQ N i 0 b.Q).bind λj=>
 (Ex N a.P.A b.Ab).bind λk=>
 (GQ N k 0 b.Q).bind λl=>
 some ({ a with P:=(⟨j,l⟩:AH)}:BA))
def FJ (N:Nat) (a:Int) (c:Int→(List BA)→Option (List BA)) (b:List BA):Option (List BA):=
 c (B8 (a+1)) b
def CY (N:Nat) (p0_w:BS) (d:CW) (i:(List BA)→Option (List BA)):Nat→Int→(List BA)→Option (List BA)
 |0,_,_=>none
 |o+1,g,c=>
 cond (decide (g<(↑d.Bb.length:Int))) (
 (ix d.Bb g).bind λa=>
 (GK N a.Al (↑p0_w.b.F.length:Int)).bind λj=>
 cond j (
 (ix c a.Al).bind λp=>
 (ix p0_w.b.F a.Al).bind λk=>
 (ix c a.Al).bind λl=>
 (J4 N k (⟨0,l.T,false,false⟩:Et) a.T).bind λm=>
 (ix c a.Al).bind λn=>
 FJ N g (CY N p0_w d i o) (upd c a.Al ({ n with T:=m.T}))) (
 FJ N g (CY N p0_w d i o) c)) (
 i c)
def Dv (N:Nat) (p0_w:BS) (c:(List Bool)):Nat→Int→(List BA)→Option (List BA)
 |0,_,_=>none
 |p+1,a,d=>
 cond (decide (a<(↑p0_w.b.F.length:Int))) (
 (ix p0_w.b.F a).bind λg=>
 (ix d a).bind λm=>
 (ix d a).bind λi=>
 (cond (decide (a<(↑c.length:Int))) ((ix c a).bind λj=>
 some j) (some false)).bind λk=>
 (Iv N g i k).bind λl=>
 (ix d a).bind λn=>
 (ix d a).bind λo=>
 Dv N p0_w c p (B8 (a+1)) (upd d a l)) (
 some d)
def Cj (N:Nat) (p0_w:BS) (a:(List Bool)) (b:List BA):Option (List BA):=
 Dv N p0_w a N 0 b
def Ck (N:Nat) (p0_w:BS) (b:CW) (a:(List Bool)) (c:List BA):Option (List BA):=
 CY N p0_w b (Cj N p0_w a) N 0 c
def Dw (N:Nat) (a:Int) (b:Int→(List BA)→Option (List BA)) (c:List BA):Option (List BA):=
 b (B8 (a+1)) c
def CD (N:Nat) (p0_w:BS) (a:CW) (i:(List BA)→Option (List BA)):Nat→Int→(List BA)→Option (List BA)
 |0,_,_=>none
 |j+1,g,d=>
 cond (decide (g<(↑a.Ba.length:Int))) (
 (ix a.Ba g).bind λc=>
 (GK N c.Al (↑p0_w.b.F.length:Int)).bind λk=>
 (cond (!k) (some true) ((ix p0_w.b.F c.Al).bind λl=>
 some (decide (l.C≠5)))).bind λm=>
 cond m (
 Dw N g (CD N p0_w a i j) d) (
 cond (decide (c.C=2)) (
 (E2 N 1).bind λn=>
 (ix d c.Al).bind λs=>
 (ix d c.Al).bind λo=>
 Dw N g (CD N p0_w a i j) (upd d c.Al ({ o with R:=n}))) (
 cond (decide (c.C=3)) (
 (E2 N 0).bind λp=>
 (ix d c.Al).bind λt=>
 (ix d c.Al).bind λq=>
 Dw N g (CD N p0_w a i j) (upd d c.Al ({ q with R:=p}))) (
 Dw N g (CD N p0_w a i j) d)))) (
 i d)
def Gw (N:Nat) (p0_w:BS) (a:CW) (b:(List Bool)):Option (List BA):=
 CD N p0_w a (Ck N p0_w a b) N 0 p0_w.h.F
def Ha (N:Nat) (a:AH) (b:AH):Option AH:=
 (Ex N a.B b.B).bind λc=>
 (Ex N a.A b.A).bind λd=>
 some (⟨c,d⟩:AH)
def HQ (N:Nat) (a:AH):Option AH:=
 some (⟨(min a.B 1125899906842624),(min a.A 1125899906842624)⟩:AH)
def Ir (N:Nat) (a:A7) (b:AH):Option (AH×A7):=
 some (b,a)
def HN {σ:Type}(N:Nat) (a:AH) (c2_:A7) (c:Int→σ→Option (Bool×σ)) (s:σ):Option (Bool×σ):=
 (EO N a).bind λk=>
 cond (!k) (
 some (true,s)) (
 (c a.B s).bind λd=>
 cond d.1 (
 (c a.A d.2).bind λb=>
 cond b.1 (
 (cond (decide (c2_.Ae<9223372036854775807)) ((H3 N a (B8 (c2_.Ae+1))).bind λi=>
 some i) (some false)).bind λj=>
 cond j (
 (c (B8 (c2_.Ae+1)) b.2).bind λg=>
 cond g.1 (
 some (true,g.2)) (
 some (false,g.2))) (
 some (true,b.2))) (
 some (false,b.2))) (
 some (false,d.2)))
def GS (N:Nat) (a:Et) (b:Bool):Option Et:=
 some ({ a with R:=b}:Et)
def IN (N:Nat) (b:A7) (a:Et) (c:Int):Option Et:=
 cond (decide (b.C≠3)) (
 some a) (
 cond (decide (b.Ak≤c)) (
 GS N a true) (
 cond (decide (c≤b.Ae)) (
 GS N a false) (
 GS N a a.R)))
def D8 (N:Nat) (a:Int) (g:Int→Int→Int→Bool→Option (Bool×(Int×Int×Bool))) (b:Int) (c:Int) (d:Bool):Option (Bool×(Int×Int×Bool)):=
 g (B8 (a+1)) b c d
def Gl (N:Nat) (g:Int) (i:Int) (a:Bool) (j:Int→Int→Bool→Option (Bool×(Int×Int×Bool))) (b:Int):Option (Bool×(Int×Int×Bool)):=
 cond a (
 (E2 N b).bind λk=>
 (H2 N (⟨g,i⟩:AH) k).bind λc=>
 j c.B c.A a) (
 (E2 N b).bind λd=>
 j d.B d.A true)
def DC (N:Nat) (b:A7) (c:BA) (j:Int):Nat→Int→Int→Int→Bool→Option (Bool×(Int×Int×Bool))
 |0,_,_,_,_=>none
 |m+1,a,d,g,i=>
 cond (decide (a<2)) (
 (H3 N c.R a).bind λk=>
 cond (!k) (
 D8 N a (DC N b c j m) d g i) (
 (IN N b (⟨0,0,false,(decide (a=1))⟩:Et) j).bind λl=>
 cond l.R (
 Gl N d g i (D8 N a (DC N b c j m)) 1) (
 Gl N d g i (D8 N a (DC N b c j m)) 0))) (
 some (true,(d,g,i)))
def GC (N:Nat) (a:A7) (b:BA) (c:Int) (d:Int) (g:Int) (i:Bool):Option (Bool×(Int×Int×Bool)):=
 DC N a b c N 0 d g i
def Hh (N:Nat) (a:BA) (b:Int) (c:Int):Option BA:=
 some ({ a with R:=(⟨b,c⟩:AH)}:BA)
def Is (N:Nat) (b:A7) (a:BA) (d:AH):Option BA:=
 cond (decide (b.C≠3)) (
 some a) (
 (Ir N b d).bind λg=>
 (HN N g.1 g.2 (λj i=>GC N b a j i.1 i.2.1 i.2.2) (0,0,false)).bind λc=>
 cond c.1 (
 cond c.2.2.2 (
 Hh N a c.2.1 c.2.2.1) (
 Hh N a a.R.B a.R.A)) (
 none))
def FM (N:Nat) (a:Int) (d:(List B9)→Int→(List AH)→Option ((List B9)×(List BA)×(List AH))) (b:List B9) (c:List AH):Option ((List B9)×(List BA)×(List AH)):=
 d b (B8 (a+1)) c
def Ca (N:Nat) (p0_w:BS) (g:(List B9)→(List AH)→Option ((List B9)×(List BA)×(List AH))):Nat→(List B9)→Int→(List AH)→Option ((List B9)×(List BA)×(List AH))
 |0,_,_,_=>none
 |k+1,c,d,b=>
 cond (decide (d<(↑p0_w.h.S.length:Int))) (
 (ix p0_w.h.S d).bind λa=>
 cond (decide (a.X≤p0_w.h.K)) (
 (ix b a.E).bind λl=>
 (ix b a.E).bind λi=>
 (Ha N i a.M).bind λj=>
 (ix b a.E).bind λm=>
 (ix b a.E).bind λn=>
 FM N d (Ca N p0_w g k) c (upd b a.E j)) (
 chk (room (c.length+1) 32) <|
 FM N d (Ca N p0_w g k) (c++([a]:List B9)) b)) (
 g c b)
def Cy (N:Nat) (c:List AH) (d:(List AH)→Option ((List B9)×(List BA)×(List AH))):Nat→Int→(List AH)→Option ((List B9)×(List BA)×(List AH))
 |0,_,_=>none
 |m+1,a,b=>
 cond (decide (a<(↑c.length:Int))) (
 (ix b a).bind λj=>
 (ix b a).bind λg=>
 (HQ N g).bind λi=>
 (ix b a).bind λk=>
 (ix b a).bind λl=>
 Cy N c d m (B8 (a+1)) (upd b a i)) (
 d b)
def FL (N:Nat) (a:Int) (c:Int→(List BA)→Option ((List B9)×(List BA)×(List AH))) (b:List BA):Option ((List B9)×(List BA)×(List AH)):=
 c (B8 (a+1)) b
def Cn (N:Nat) (p0_w:BS) (i:List B9) (d:List AH):Nat→Int→(List BA)→Option ((List B9)×(List BA)×(List AH))
 |0,_,_=>none
 |m+1,a,c=>
 cond (decide (a<(↑p0_w.b.F.length:Int))) (
 (ix p0_w.b.F a).bind λg=>
 cond (decide (g.C=3)) (
 (ix c a).bind λn=>
 (ix c a).bind λj=>
 (ix d g.I).bind λo=>
 (ix d g.I).bind λk=>
 (Is N g j k).bind λl=>
 (ix c a).bind λp=>
 (ix c a).bind λq=>
 FL N a (Cn N p0_w i d m) (upd c a l)) (
 FL N a (Cn N p0_w i d m) c)) (
 some (i,c,d))
def Cz (N:Nat) (p0_w:BS) (a:List B9) (b:List AH):Option ((List B9)×(List BA)×(List AH)):=
 Cn N p0_w a b N 0 p0_w.h.F
def Co (N:Nat) (p0_w:BS) (b:List B9) (a:List AH):Option ((List B9)×(List BA)×(List AH)):=
 Cy N a (Cz N p0_w b) N 0 a
def Bw (N:Nat) (p0_w:BS) (a:List AH):Option ((List B9)×(List BA)×(List AH)):=
 Ca N p0_w (Co N p0_w) N ([]:List B9) 0 a
def ES (N:Nat) (a:Int) (b:List AH) (c:Int→(List AH)→Option ((List B9)×(List BA)×(List AH))) (d:Int) (g:Int):Option ((List B9)×(List BA)×(List AH)):=
 (ix b a).bind λi=>
 (ix b a).bind λj=>
 c (B8 (a+1)) (upd b a (⟨d,g⟩:AH))
def BZ (N:Nat) (p0_w:BS) (a:(List AH)) (c:(List AH)→Option ((List B9)×(List BA)×(List AH))):Nat→Int→(List AH)→Option ((List B9)×(List BA)×(List AH))
 |0,_,_=>none
 |p+1,b,i=>
 cond (decide (b<(↑p0_w.h.M.length:Int))) (
 (ix p0_w.h.M b).bind λq=>
 (ix p0_w.h.M b).bind λd=>
 (cond (decide (b<(↑a.length:Int))) ((ix a b).bind λj=>
 (EO N j).bind λk=>
 some k) (some false)).bind λl=>
 (cond l ((ix a b).bind λm=>
 some (decide (0≤m.B))) (some false)).bind λn=>
 cond n (
 (ix a b).bind λo=>
 (Ha N d o).bind λg=>
 ES N b i (BZ N p0_w a c p) g.B g.A) (
 ES N b i (BZ N p0_w a c p) d.B d.A)) (
 c i)
def F3 (N:Nat) (p0_w:BS) (a:(List AH)):Option ((List B9)×(List BA)×(List AH)):=
 BZ N p0_w a (Bw N p0_w) N 0 p0_w.peaks
def Dp (N:Nat) (a:II) (b:Int):Option AH:=
 some (⟨0,a.As⟩:AH)
def Gz (N:Nat) (c:Int) (a:Int) (b:Int):Option Int:=
 (Fa N c a b).bind λd=>
 cond (!d.2.2) (
 some 0) (
 some d.1)
def JT (N:Nat) (b:A7) (a:Int) (c:Int):Option Int:=
 cond (decide (b.E=(-1))) (
 some a) (
 (Gz N c b.Aa b.Y).bind λd=>
 (Dg N a d).bind λg=>
 some (max 0 g))
def J5 (N:Nat) (a:(List BC)) (b:Int):Option Int:=
 (EE N a).bind λc=>
 cond (!c) (
 some 0) (
 (EB N a b).bind λd=>
 some d.1)
def F4 (N:Nat):Option Int:=
 some 0
def Fg (N:Nat) (a:A7) (b:Int):Option Int:=
 (Dg N b a.O).bind λd=>
 (Gz N (max 0 d) a.N a.H).bind λc=>
 some c
def H7 (N:Nat) (a:Bool) (b:Option Int):Option Int:=
 cond (!a) (
 some 0) (
 b)
def H6 (N:Nat) (c:A7) (a:Bool) (b:Int) (d:Option Int):Option Int:=
 cond a (
 (Gz N b c.N c.H).bind λg=>
 some g) (
 d)
def H5 (N:Nat) (b:A7) (a:Int):Option Int:=
 (Gz N b.N a b.Q).bind λc=>
 some c
def Iu (N:Nat) (a:A7) (c:Int) (g:(List BC)) (b:Int) (d:Int):Option Int:=
 (JT N a b d).bind λi=>
 (J5 N g i).bind λj=>
 (Gz N j c a.Q).bind λk=>
 (Ex N k a.Ad).bind λl=>
 some l
def HY (N:Nat) (a:A7) (d:Int) (c:Bool) (i:(List BC)) (b:Int) (g:Int):Option Int:=
 cond (decide (a.C=0)) (
 Iu N a d i b g) (
 cond (decide (a.C=2)) (
 H5 N a d) (
 cond (decide (a.C=3)) (
 H6 N a c b (F4 N)) (
 cond (decide (a.C=5)) (
 H7 N c (Fg N a b)) (
 cond (decide (a.C=1)) (
 Fg N a b) (
 F4 N)))))
def Eg (N:Nat) (b:A7) (c:BA) (a:AH) (d:AH):Option AH:=
 (HY N b c.P.B (decide (1≤c.R.B)) b.U.B a.B d.A).bind λg=>
 (HY N b c.P.A (decide (1≤c.R.A)) b.U.A a.A d.B).bind λi=>
 some (⟨g,i⟩:AH)
def Do (N:Nat) (b:A7) (c2_:BA) (c3_:AH) (a:Int):Option AH:=
 (E2 N a).bind λc=>
 (Eg N b c2_ c c3_).bind λd=>
 some d
def Im (N:Nat) (c:Int) (a:Int) (b:Int):Option Int:=
 (Fa N c a b).bind λd=>
 cond (!d.2.2) (
 some 0) (
 some d.1)
def JB (N:Nat) (a:A7) (b:Int) (c:Int):Option Int:=
 cond (decide (a.C≠4)) (
 some 0) (
 (Im N b a.N a.H).bind λd=>
 (Im N c a.Aa a.Y).bind λg=>
 some (B8 (d-g)))
def Ho (N:Nat) (c:A7) (a:AH) (b:AH):Option AH:=
 (JB N c a.B b.A).bind λd=>
 (JB N c a.A b.B).bind λg=>
 some (⟨d,g⟩:AH)
def Gm (N:Nat) (a:AH):Option AH:=
 some (⟨(max 0 a.B),(max 0 a.A)⟩:AH)
def Dn (N:Nat) (b:A7) (c2_:AH) (a:Int):Option AH:=
 (E2 N a).bind λg=>
 (Ho N b g c2_).bind λc=>
 (Gm N c).bind λd=>
 some d
def K6 (N:Nat) (a:AH) (b:AH):Option AH:=
 (Dg N a.B b.A).bind λc=>
 (Dg N a.A b.B).bind λd=>
 some (⟨c,d⟩:AH)
def Dm (N:Nat) (b:A7) (c2_:AH) (a:Int):Option AH:=
 (E2 N 0).bind λj=>
 (E2 N a).bind λc=>
 (Ho N b c2_ c).bind λd=>
 (K6 N j d).bind λg=>
 (Gm N g).bind λi=>
 some i
def HO (N:Nat) (a:EM) (b:Int×Int×Bool) (c:Int):Option (Int×Int):=
 cond (decide ((B8 (b.2.1+c))<a.H)) (
 some (b.1,(B8 (b.2.1+c)))) (
 some ((B8 (b.1+1)),(B8 ((B8 (b.2.1+c))-a.H))))
def Hp (N:Nat) (a:EM) (d:Int) (b:Int):Option (Int×Int):=
 (Fa N d a.N a.H).bind λc=>
 cond (!c.2.2) (
 some (0,0)) (
 cond ((decide (0≤b))&&(decide (b<a.H))) (
 HO N a c b) (
 HO N a c 0))
def DT (N:Nat) (b:EM) (a:Int):Option AH:=
 (Hp N b a 0).bind λd=>
 (Hp N b a (B8 (b.H-1))).bind λc=>
 some (⟨d.1,c.1⟩:AH)
def F2 (N:Nat) (b:List A0) (a:A7) (c:BA) (i:(List A0)→Option (List A0)) (d:Int) (g:Int):Option (List A0):=
 chk (room (b.length+1) 32) <|
 i (b++([(⟨a.E,a.V,2,(λx=>Do N a c (⟨d,g⟩:AH) x)⟩:A0)]:List A0))
def C8 (N:Nat) (a:Int) (c:(List A0)→Int→Option (List A0)) (b:List A0):Option (List A0):=
 c b (B8 (a+1))
def B1 (N:Nat) (p0_w:BS) (d:Int) (i:(List A0)→Option (List A0)):Nat→(List A0)→Int→Option (List A0)
 |0,_,_=>none
 |l+1,g,c=>
 cond (decide (c<(↑p0_w.b.F.length:Int))) (
 (ix p0_w.b.F c).bind λa=>
 cond ((decide (a.I=d))&&(decide (a.C≠4))) (
 (ix p0_w.h.F c).bind λo=>
 (ix p0_w.h.F c).bind λj=>
 cond (decide (a.E≠(-1))) (
 (ix p0_w.peaks a.E).bind λp=>
 (ix p0_w.peaks a.E).bind λk=>
 F2 N g a j (C8 N c (B1 N p0_w d i l)) k.B k.A) (
 F2 N g a j (C8 N c (B1 N p0_w d i l)) 0 0)) (
 cond (decide (a.I=d)) (
 (ix p0_w.peaks a.E).bind λq=>
 (ix p0_w.peaks a.E).bind λm=>
 chk (room (g.length+1) 32) <|
 C8 N c (B1 N p0_w d i l) (g++([(⟨a.E,a.V,2,(λx=>Dn N a m x)⟩:A0)]:List A0))) (
 cond ((decide (a.E=d))&&(decide (a.C=4))) (
 (ix p0_w.peaks a.I).bind λs=>
 (ix p0_w.peaks a.I).bind λn=>
 chk (room (g.length+1) 32) <|
 C8 N c (B1 N p0_w d i l) (g++([(⟨a.I,a.V,2,(λx=>Dm N a n x)⟩:A0)]:List A0))) (
 C8 N c (B1 N p0_w d i l) g)))) (
 i g)
def Fy (N:Nat) (a:List A0):Option (List A0):=
 some a
def CZ (N:Nat) (p0_w:BS) (d:Int) (c:List A0):Option (List A0):=
 (ix p0_w.b.D d).bind λa=>
 cond (decide (a.H≠0)) (
 chk (room (c.length+1) 32) <|
 Fy N (c++([(⟨a.Ao,a.V,2,(λx=>DT N a x)⟩:A0)]:List A0))) (
 Fy N c)
def CQ (N:Nat) (p0_w:BS) (a:Int) (b:List A0):Option (List A0):=
 B1 N p0_w a (CZ N p0_w a) N b 0
def FK (N:Nat) (a:Int) (b:(List A0)→Int→Option (List A0)) (c:List A0):Option (List A0):=
 b c (B8 (a+1))
def CA (N:Nat) (p0_w:BS) (c:Int) (a:(List II)) (i:(List A0)→Option (List A0)):Nat→(List A0)→Int→Option (List A0)
 |0,_,_=>none
 |k+1,j,g=>
 cond (decide (g<(↑a.length:Int))) (
 (ix a g).bind λd=>
 (cond (decide (d.Ah≠c)) (some true) ((GK N d.Bm (↑p0_w.b.Ar.length:Int)).bind λl=>
 some (!l))).bind λm=>
 cond (m||(decide (d.As≤0))) (
 FK N g (CA N p0_w c a i k) j) (
 (cond (decide (d.E≠(-1))) ((GK N d.E (↑p0_w.b.D.length:Int)).bind λn=>
 (cond (!n) (some true) ((ix p0_w.b.D d.E).bind λo=>
 (ix p0_w.b.D c).bind λp=>
 some (decide (o.Aj≠p.Aj)))).bind λq=>
 some q) (some false)).bind λs=>
 cond s (
 FK N g (CA N p0_w c a i k) j) (
 chk (room (j.length+1) 32) <|
 FK N g (CA N p0_w c a i k) (j++([(⟨d.E,0,0,(λx=>Dp N d x)⟩:A0)]:List A0))))) (
 i j)
def Gy (N:Nat) (p0_w:BS) (b:Int) (a:(List II)):Option (List A0):=
 CA N p0_w b a (CQ N p0_w b) N ([]:List A0) 0
def Fj (N:Nat) (a:AH) (b:Int) (c2_:Int):Option AH:=
 (Dg N a.B b).bind λc=>
 (Dg N a.A c2_).bind λd=>
 some (⟨(max 0 c),(max 0 (min a.A d))⟩:AH)
def A9 (N:Nat) (c:(List B9)) (a:B9) (b:((B9×B9)→Option Int)) (d:Int):Option (Int×Bool):=
 (cond (decide (d<(↑c.length:Int))) ((ix c d).bind λg=>
 (b (g,a)).bind λi=>
 some (decide (i=0))) (some false)).bind λj=>
 some (d,j)
def A3 (N:Nat) (d:(List B9)) (a:B9) (b:((B9×B9)→Option Int)) (i:Int→Option (Int×Bool)):Nat→Int→Int→Option (Int×Bool)
 |0,_,_=>none
 |l+1,c,g=>
 cond (decide (c<g)) (
 (ix d (B8 (Du .u64 (IntKind.wrap .u64 (B8 (c+g))) 1))).bind λj=>
 (b (j,a)).bind λk=>
 cond (decide (k<0)) (
 A3 N d a b i l (B8 ((B8 (Du .u64 (IntKind.wrap .u64 (B8 (c+g))) 1))+1)) g) (
 A3 N d a b i l c (B8 (Du .u64 (IntKind.wrap .u64 (B8 (c+g))) 1)))) (
 i c)
def BH (N:Nat) (c:(List B9)) (a:B9) (b:((B9×B9)→Option Int)):Option (Int×Bool):=
 A3 N c a b (A9 N c a b) N 0 (↑c.length:Int)
def J3 (N:Nat) (a:(List B9)) (c:Int) (d:Int) (g:AH):Option (List B9):=
 cond (decide (g.A≤0)) (
 some a) (
 (BH N a (⟨c,d,(⟨0,0⟩:AH)⟩:B9) (λx=>Eo N x.1 x.2)).bind λb=>
 cond b.2 (
 (ix a b.1).bind λo=>
 (ix a b.1).bind λi=>
 (Ha N i.M g).bind λj=>
 (HQ N j).bind λk=>
 (ix a b.1).bind λp=>
 (ix a b.1).bind λl=>
 some (upd a b.1 ({ l with M:=k}))) (
 (HQ N g).bind λm=>
 (IW N a b.1 ([(⟨c,d,m⟩:B9)]:List B9)).bind λn=>
 some n))
def GU (N:Nat) (p0_w:BS) (b:Int) (a:Int) (c:AH):Option (List B9):=
 cond (decide (b≠(-1))) (
 (J3 N p0_w.h.S (B8 ((B8 (p0_w.h.K+1))+a)) b c).bind λd=>
 some d) (
 some p0_w.h.S)
def Db (N:Nat) (p0_w:BS) (b:Int) (g:EM) (m:AH) (i:Int) (j:Int) (k:List B9):Option (AH×(List AH)×(List B9)):=
 (Fj N m j i).bind λa=>
 (Dg N a.B g.Ag).bind λc=>
 (Dg N a.A g.Ag).bind λd=>
 (GU N ({ p0_w with h:=({ p0_w.h with S:=k}:Cf)}:BS) g.Ao g.V (⟨(max 0 c),(max 0 d)⟩:AH)).bind λl=>
 (ix p0_w.h.M b).bind λn=>
 (ix p0_w.h.M b).bind λo=>
 some ((⟨(max 0 c),(max 0 d)⟩:AH),(upd p0_w.h.M b (⟨(min a.B g.Ag),(min a.A g.Ag)⟩:AH)),l)
def Da (N:Nat) (p0_w:BS) (a:(List A0)) (i:AH) (n:Int→Int→(List B9)→Option (AH×(List AH)×(List B9))):Nat→Int→Int→Int→(List B9)→Option (AH×(List AH)×(List B9))
 |0,_,_,_,_=>none
 |u+1,c,d,g,j=>
 cond (decide (c<(↑a.length:Int))) (
 (ix a c).bind λb=>
 (b.asks i.B).bind λk=>
 (b.asks i.A).bind λl=>
 (Fj N i g d).bind λm=>
 (GU N ({ p0_w with h:=({ p0_w.h with S:=j}:Cf)}:BS) b.to_ b.delay (⟨(min k.B m.B),(min l.A m.A)⟩:AH)).bind λo=>
 (Ex N k.A b.slack).bind λp=>
 (Ex N g p).bind λq=>
 (Dg N l.B b.slack).bind λs=>
 (Ex N d s).bind λt=>
 Da N p0_w a i n u (B8 (c+1)) t q o) (
 n d g j)
def Gx (N:Nat) (p0_w:BS) (a:Int) (c:(List A0)):Option (AH×(List AH)×(List B9)):=
 (ix p0_w.b.D a).bind λg=>
 (ix p0_w.peaks a).bind λi=>
 (ix p0_w.peaks a).bind λd=>
 Da N p0_w c d (Db N p0_w a g d) N 0 0 0 p0_w.h.S
def Ff (N:Nat) (b:Cf) (a:(List B9)×(List BA)×(List AH)) (c:List AH) (d:List AH) (g:List B9):Option (Cf×(List AH)×(List AH)):=
 some ((⟨(B8 (b.K+1)),d,g,a.2.1⟩:Cf),a.2.2,c)
def Fe (N:Nat) (c:AU) (g:Cf) (i:CW) (b:(List B9)×(List BA)×(List AH)) (m:(List AH)→(List AH)→(List B9)→Option (Cf×(List AH)×(List AH))):Nat→Int→(List AH)→(List AH)→(List B9)→Option (Cf×(List AH)×(List AH))
 |0,_,_,_,_=>none
 |q+1,a,d,j,k=>
 cond (decide (a<(↑c.D.length:Int))) (
 (Gy N (⟨c,(⟨g.K,j,k,b.2.1⟩:Cf),b.2.2⟩:BS) a i.Au).bind λn=>
 (Gx N (⟨c,(⟨g.K,j,k,b.2.1⟩:Cf),b.2.2⟩:BS) a n).bind λl=>
 (ix d a).bind λo=>
 (ix d a).bind λp=>
 Fe N c g i b m q (B8 (a+1)) (upd d a l.1) l.2.1 l.2.2) (
 m d j k)
def H4 (N:Nat) (a:AU) (b:Cf) (c:CW) (d:(List Bool)) (g:(List AH)):Option (Cf×(List AH)×(List AH)):=
 (Cu N b.M).bind λj=>
 (Cp N b.F).bind λl=>
 chk (Kj (↑a.D.length:Int) (↑a.D.length:Int) 16) <|
 (Gw N (⟨a,(⟨b.K,j,b.S,l⟩:Cf),(List.replicate ((↑a.D.length:Int):Int).toNat ((⟨0,0⟩:AH):AH))⟩:BS) c d).bind λk=>
 (F3 N (⟨a,(⟨b.K,j,b.S,k⟩:Cf),(List.replicate ((↑a.D.length:Int):Int).toNat ((⟨0,0⟩:AH):AH))⟩:BS) g).bind λi=>
 chk (Kj (↑a.D.length:Int) (↑a.D.length:Int) 16) <|
 Fe N a b c i (Ff N b i) N 0 (List.replicate ((↑a.D.length:Int):Int).toNat ((⟨0,0⟩:AH):AH)) j i.1
def Fw {σ:Type}(N:Nat) (j:(Int×(List AH))→σ→Option (Bool×σ)) (c:AU) (k:(List Bool)) (l:Cr) (d:Int) (g:Int) (m:List AH) (n:List B9) (o:List BA) (p:σ) (q:Int→Int→(List AH)→(List B9)→(List BA)→σ→Option (Bool×σ)) (s:List Int) (t:List JG) (u:List N2) (v:List II) (w:List KE):Option (Bool×σ):=
 (JC N l g (↑c.D.length:Int)).bind λi=>
 (H4 N c (⟨g,m,n,o⟩:Cf) (⟨s,t,u,v,w⟩:CW) k i).bind λa=>
 (j (d,a.2.1) p).bind λb=>
 cond b.1 (
 q (B8 (d+1)) a.1.K a.1.M a.1.S a.1.F b.2) (
 some (false,b.2))
def DF {σ:Type}(N:Nat) (c:(Int×(List AH))→σ→Option (Bool×σ)) (c2_:Int) (c3_:(List CW)) (d:AU) (g:(List Bool)) (i:Cr):Nat→Int→Int→(List AH)→(List B9)→(List BA)→σ→Option (Bool×σ)
 |0,_,_,_,_,_,_=>none
 |o+1,a,k,l,m,n,j=>
 cond (decide (a<c2_)) (
 cond (decide (a<(↑c3_.length:Int))) (
 (ix c3_ a).bind λb=>
 Fw N c d g i a k l m n j (DF N c c2_ c3_ d g i o) b.Ai b.Ba b.Bb b.Au b.Bn) (
 Fw N c d g i a k l m n j (DF N c c2_ c3_ d g i o) ([]) ([]) ([]) ([]) ([]))) (
 some (true,j))
def IX {σ:Type}(N:Nat) (a:Cf) (c2_:Int) (c3_:(List CW)) (b:AU) (c:(List Bool)) (d:Cr) (g:(Int×(List AH))→σ→Option (Bool×σ)) (s:σ):Option (Bool×σ):=
 DF N g c2_ c3_ b c d N 0 a.K a.M a.S a.F s
def FT (N:Nat) (a:Fk) (b:Int) (c:List AH) (d:Int) (g:Int):Option (Bool×(Int×Int)):=
 (cond ((decide (0≤a.Ah))&&(decide (a.Ah<(↑c.length:Int)))) ((ix c a.Ah).bind λi=>
 some (decide (a.Bc<i.A))) (some false)).bind λj=>
 cond j (
 some (false,(b,b))) (
 some (true,(d,g)))
def HT (N:Nat) (a:Int) (d:Int→Int→Int→Option DG) (b:Int) (c:Int):Option DG:=
 d (B8 (a+1)) b c
def DX (N:Nat) (i:AU) (j:Cf) (c:(List CW)) (a:(List Bool)) (n:Fk) (k:List Cr) (o:Int→Option DG):Nat→Int→Int→Int→Option DG
 |0,_,_,_=>none
 |q+1,g,l,m=>
 cond (decide (g<(↑k.length:Int))) (
 (ix k g).bind λp=>
 (JL N i j p c a l).bind λb=>
 (IX N b.1 b.2.1 b.2.2.1 b.2.2.2.1 b.2.2.2.2.1 b.2.2.2.2.2 (λs t=>FT N n s.1 s.2 t.1 t.2) (l,m)).bind λd=>
 cond d.1 (
 HT N g (DX N i j c a n k o q) d.2.1 d.2.2) (
 HT N g (DX N i j c a n k o q) d.2.1 d.2.2)) (
 o m)
def EF (N:Nat) (a:Int):Option DG:=
 some (⟨a,false⟩:DG)
def HU (N:Nat) (d:AU) (g:Cf) (c:(List CW)) (b:(List Bool)) (a:Int) (i:Fk) (j:List Cr):Option DG:=
 DX N d g c b i j (EF N) N 0 (min a 24) (-1)
def Fb (N:Nat) (g:AU) (a:Int) (j:Cf) (b:(List Cr)) (i:(List CW)) (d:(List Bool)) (c:Int):Option DG:=
 cond ((decide (a<0))||(decide ((↑g.Ac.length:Int)≤a))) (
 some (⟨(-1),false⟩:DG)) (
 (ix g.Ac a).bind λk=>
 cond (decide ((↑b.length:Int)=0)) (
 HU N g j i d c k ([(⟨0,0,[]⟩:Cr)]:List Cr)) (
 HU N g j i d c k b))
def Dq (N:Nat) (a:Int) (g:Bool) (b:DG) (c:DG) (d:Int):Option Bool:=
 some (((g&&(decide (b.O=d)))&&(((decide (b.O<0))&&((decide (c.O<0))||(decide (c.O=a))))||((decide (0≤b.O))&&(decide (c.O=b.O)))))&&(decide (b.O<(max a 1))))
def FP (N:Nat) (c:AU) (d:Int) (i:Cf) (b:(List Cr)) (g:(List CW)) (a:Int):Option Bool:=
 (GG N).bind λm=>
 (G0 N c b g).bind λq=>
 (Gc N c b).bind λs=>
 (cond (((((!q)||(!s))||(decide (a<0)))||(decide (8<a)))||(decide ((↑b.length:Int)<2))) (some true) ((G5 N c).bind λt=>
 some (!t))).bind λu=>
 (cond u (some true) ((It N c i).bind λv=>
 some (!v))).bind λw=>
 cond w (
 some m) (
 chk (Kj (↑c.F.length:Int) (↑c.F.length:Int) 1) <|
 (Fb N c d i b g (List.replicate ((↑c.F.length:Int):Int).toNat (false:Bool)) a).bind λn=>
 (cN b 1).bind λo=>
 (Fb N c d i o g (List.replicate ((↑c.F.length:Int):Int).toNat (false:Bool)) a).bind λj=>
 (cO b 1).bind λp=>
 (Fb N c d i p g (List.replicate ((↑c.F.length:Int):Int).toNat (false:Bool)) a).bind λk=>
 (Fb N c d i b g (List.replicate ((↑c.F.length:Int):Int).toNat (false:Bool)) (B8 (a+1))).bind λl=>
 cond ((decide (0≤k.O))&&((decide (j.O<0))||(decide (k.O<j.O)))) (
 Dq N a m n l k.O) (
 Dq N a m n l j.O))
end Go.Proofs.YtibidnaedddfdaaGreat
