import Derived.Test.YtblcgjadhemlbaaGreatWReps
import Derived.Test.YtblcgjadhemlbaaGreatWSortD
namespace Go.Proofs.YtblcgjadhemlbaaGreat
set_option linter.all false
open Go.RowKit
def JU (N:Nat):Option AU:=
 some (⟨(ByteArray.mk #[98]),Nj,0,Nk,[],[],[],[],[],([0,0,0]:List Int),0⟩:AU)
def DC (N:Nat) (a:(List Int)):Option (List Int):=
 chk (room (([]:List Int).length+a.length) 8) <|
 some (([]:List Int)++a)
def Jz (N:Nat) (a:AU) (b:Int) (c:List (List Int)):Option A7:=
 some (⟨b,c,(List.replicate ((↑a.A.length:Int):Int).toNat (0:Int)),[],(List.replicate ((↑a.E.length:Int):Int).toNat ((⟨0,0,false,false⟩:BG):BG)),(List.replicate ((↑a.J.length:Int):Int).toNat (0:Int)),(List.replicate ((↑a.J.length:Int):Int).toNat (0:Int))⟩:A7)
def I6 (N:Nat) (c:AU) (d:(List (List Int))→Option A7):Nat→Int→(List (List Int))→Option A7
 |0,_,_=>none
 |l+1,a,b=>
 cond (decide (a<(↑c.A.length:Int))) (
 (ix c.A a).bind λg=>
 (DC N g.Bf).bind λi=>
 (ix b a).bind λj=>
 (ix b a).bind λk=>
 I6 N c d l (Bw (a+1)) (upd b a i)) (
 d b)
def Mg (N:Nat) (a:AU) (b:Int):Option A7:=
 chk (Jk (↑a.A.length:Int) (↑a.A.length:Int) 24) <|
 chk (Jk (↑a.A.length:Int) (↑a.A.length:Int) 8) <|
 chk (Jk (↑a.E.length:Int) (↑a.E.length:Int) 24) <|
 chk (Jk (↑a.J.length:Int) (↑a.J.length:Int) 8) <|
 chk (Jk (↑a.J.length:Int) (↑a.J.length:Int) 8) <|
 I6 N a (Jz N a b) N 0 (List.replicate ((↑a.A.length:Int):Int).toNat ([]:(List Int)))
def DB (N:Nat) (c:Int) (b:Int) (a:Int):Option Bool:=
 some ((decide (b≤c))&&(decide (c≤a)))
def Cz (N:Nat) (a:Int):Option Bool:=
 (DB N a 0 1125899906842624).bind λb=>
 some b
def EY (N:Nat) (a:AU) (c:Option Bool):Nat→Int→Option Bool
 |0,_=>none
 |i+1,b=>
 cond (decide (b<(↑a.Ax.length:Int))) (
 (ix a.Ax b).bind λd=>
 (Cz N d).bind λg=>
 cond (!g) (
 some false) (
 EY N a c i (Bw (b+1)))) (
 c)
def Gb (N:Nat):Option Bool:=
 some true
def Ea (N:Nat) (a:AU):Option Bool:=
 EY N a (Gb N) N 0
def EZ (N:Nat) (a:AU) (d:Option Bool):Nat→Int→Option Bool
 |0,_=>none
 |g+1,c=>
 cond (decide (c<(↑a.H.size:Int))) (
 (Wl a.H c).bind λb=>
 cond ((((decide (b<32))||(decide (126<b)))||(decide (b=34)))||(decide (b=92))) (
 some false) (
 EZ N a d g (Bw (c+1)))) (
 d)
def IT (N:Nat) (a:AU):Option Bool:=
 (cond (decide (500<(↑a.H.size:Int))) (some true) ((DB N (↑a.J.length:Int) 1 16).bind λb=>
 some (!b))).bind λc=>
 (cond c (some true) ((DB N a.T 0 64).bind λd=>
 some (!d))).bind λg=>
 (cond g (some true) ((DB N (↑a.A.length:Int) 1 64).bind λi=>
 some (!i))).bind λj=>
 (cond ((((((j||(decide (96<(↑a.E.length:Int))))||(decide (40<(↑a.Am.length:Int))))||(decide (128<(↑a.Au.length:Int))))||(decide (128<(↑a.Av.length:Int))))||(decide (40<(↑a.Ay.length:Int))))||(decide ((↑a.Ax.length:Int)≠3))) (some true) ((DB N a.V 0 1099511627776).bind λk=>
 some (!k))).bind λl=>
 cond l (
 some false) (
 EZ N a (Ea N a) N 0)
def HW (N:Nat):Option Bool:=
 some true
def Fv (N:Nat) (a:ByteArray) (d:Option Bool):Nat→Int→Option Bool
 |0,_=>none
 |g+1,c=>
 cond (decide (c<(↑a.size:Int))) (
 (Wl a c).bind λb=>
 cond ((((decide (b<97))||(decide (122<b)))&&((decide (b<48))||(decide (57<b))))&&(decide (b≠95))) (
 some false) (
 Fv N a d g (Bw (c+1)))) (
 d)
def JV (N:Nat) (a:ByteArray):Option Bool:=
 (cond (((decide ((↑a.size:Int)<1))||(decide (24<(↑a.size:Int))))||(a==(ByteArray.mk #[111,117,116]))) (some true) ((Wl a 0).bind λb=>
 some (decide (b<97)))).bind λc=>
 (cond c (some true) ((Wl a 0).bind λd=>
 some (decide (122<d)))).bind λg=>
 cond g (
 some false) (
 Fv N a (HW N) N 1)
def Hz (N:Nat) (a:(List (AQ×Bool))) (b:ByteArray) (d:ByteArray):Option (Bool×(List (AQ×Bool))):=
 (JV N b).bind λc=>
 cond ((!c)||((P1 (λk:AQ=>Value.agg (AQ.v k).toArray) a (⟨d,b⟩:AQ)).getD false)) (
 some (false,a)) (
 some (true,(Sr (λk:AQ=>Value.agg (AQ.v k).toArray) a (⟨d,b⟩:AQ) true)))
def Js (N:Nat) (a:(List (AQ×Bool))) (b:ByteArray) (c:ByteArray):Option (Bool×(List (AQ×Bool))):=
 cond (b==(ByteArray.mk #[115,104,101,108,116,101,114])) (
 Hz N a c (ByteArray.mk #[116,111,119,110])) (
 Hz N a c b)
def DV (N:Nat) (c2_:(List (AQ×Bool))) (c3_:Bool) (a:ByteArray) (b:ByteArray):Option ((List (AQ×Bool))×Bool):=
 (Js N c2_ a b).bind λc=>
 some (c.2,(c.1&&c3_))
def Dq (N:Nat) (a:AU) (d:Bool→((List (AQ×Bool)))→Option Bool):Nat→Int→Bool→((List (AQ×Bool)))→Option Bool
 |0,_,_,_=>none
 |k+1,c,g,i=>
 cond (decide (c<(↑a.A.length:Int))) (
 (ix a.A c).bind λj=>
 (DV N i g (ByteArray.mk #[112,108,97,99,101]) j.H).bind λb=>
 Dq N a d k (Bw (c+1)) b.2 b.1) (
 d g i)
def Dp (N:Nat) (a:AU) (i:Bool→((List (AQ×Bool)))→Option Bool):Nat→Int→Bool→((List (AQ×Bool)))→Option Bool
 |0,_,_,_=>none
 |k+1,b,c,d=>
 cond (decide (b<(↑a.E.length:Int))) (
 (ix a.E b).bind λj=>
 (DV N d c (ByteArray.mk #[108,105,110,107]) j.H).bind λg=>
 Dp N a i k (Bw (b+1)) g.2 g.1) (
 i c d)
def Do (N:Nat) (a:AU) (i:Bool→((List (AQ×Bool)))→Option Bool):Nat→Int→Bool→((List (AQ×Bool)))→Option Bool
 |0,_,_,_=>none
 |k+1,b,c,d=>
 cond (decide (b<(↑a.Am.length:Int))) (
 (ix a.Am b).bind λj=>
 (DV N d c (ByteArray.mk #[116,111,119,110]) j.H).bind λg=>
 Do N a i k (Bw (b+1)) g.2 g.1) (
 i c d)
def Dn (N:Nat) (a:AU) (i:Bool→((List (AQ×Bool)))→Option Bool):Nat→Int→Bool→((List (AQ×Bool)))→Option Bool
 |0,_,_,_=>none
 |k+1,b,c,d=>
 cond (decide (b<(↑a.Ay.length:Int))) (
 (ix a.Ay b).bind λj=>
 (DV N d c (ByteArray.mk #[115,104,101,108,116,101,114]) j.H).bind λg=>
 Dn N a i k (Bw (b+1)) g.2 g.1) (
 i c d)
def De (N:Nat) (a:AU) (c:Bool→((List (AQ×Bool)))→Option Bool):Nat→Int→Bool→((List (AQ×Bool)))→Option Bool
 |0,_,_,_=>none
 |k+1,b,d,g=>
 cond (decide (b<(↑a.Au.length:Int))) (
 (ix a.Au b).bind λj=>
 (DV N g d (ByteArray.mk #[103,97,117,103,101]) j.H).bind λi=>
 De N a c k (Bw (b+1)) i.2 i.1) (
 c d g)
def Dd (N:Nat) (a:AU) (c:Bool→Option Bool):Nat→Int→Bool→((List (AQ×Bool)))→Option Bool
 |0,_,_,_=>none
 |k+1,b,d,i=>
 cond (decide (b<(↑a.Av.length:Int))) (
 (ix a.Av b).bind λj=>
 (DV N i d (ByteArray.mk #[114,111,97,100]) j.H).bind λg=>
 Dd N a c k (Bw (b+1)) g.2 g.1) (
 c d)
def Eh (N:Nat) (a:Bool):Option Bool:=
 some a
def Ei (N:Nat) (a:AU) (b:Bool) (c:(List (AQ×Bool))):Option Bool:=
 Dd N a (Eh N) N 0 b c
def Ex (N:Nat) (a:AU) (b:Bool) (c:(List (AQ×Bool))):Option Bool:=
 De N a (Ei N a) N 0 b c
def Ey (N:Nat) (a:AU) (b:Bool) (c:(List (AQ×Bool))):Option Bool:=
 Dn N a (Ex N a) N 0 b c
def Ez (N:Nat) (a:AU) (b:Bool) (c:(List (AQ×Bool))):Option Bool:=
 Do N a (Ey N a) N 0 b c
def E0 (N:Nat) (a:AU) (b:Bool) (c:(List (AQ×Bool))):Option Bool:=
 Dp N a (Ez N a) N 0 b c
def E2 (N:Nat) (a:AU) (b:Bool) (c:(List (AQ×Bool))):Option Bool:=
 Dq N a (E0 N a) N 0 b c
def Dr (N:Nat) (a:AU) (c:Bool→((List (AQ×Bool)))→Option Bool):Nat→Int→Bool→((List (AQ×Bool)))→Option Bool
 |0,_,_,_=>none
 |k+1,b,d,g=>
 cond (decide (b<(↑a.J.length:Int))) (
 (ix a.J b).bind λj=>
 (DV N g d (ByteArray.mk #[111,119,110,101,114]) j).bind λi=>
 Dr N a c k (Bw (b+1)) i.2 i.1) (
 c d g)
def Iy (N:Nat) (a:AU):Option Bool:=
 Dr N a (E2 N a) N 0 true ([]:(List (AQ×Bool)))
def G4 (N:Nat):Option Bool:=
 some true
def Et (N:Nat) (a:(List BS)) (d:Option Bool):Nat→Int→Option Bool
 |0,_=>none
 |l+1,c=>
 cond (decide (c<(↑a.length:Int))) (
 (ix a c).bind λb=>
 cond ((((decide (b.K<0))||(decide (1125899906842624<b.K)))||(decide (b.Q<0)))||(decide (1125899906842624<b.Q))) (
 some false) (
 (cond (decide (0<c)) ((ix a (Bw (c-1))).bind λg=>
 (cond (decide (b.K≤g.K)) (some true) ((ix a (Bw (c-1))).bind λi=>
 some (decide (b.Q<i.Q)))).bind λj=>
 some j) (some false)).bind λk=>
 cond k (
 some false) (
 Et N a d l (Bw (c+1))))) (
 d)
def Eu (N:Nat) (a:(List BS)):Option Bool:=
 cond ((decide ((↑a.length:Int)<1))||(decide (32<(↑a.length:Int)))) (
 some false) (
 Et N a (G4 N) N 0)
def G5 (N:Nat) (a:Int) (b:Int):Option Bool:=
 (Cz N a).bind λc=>
 (cond c ((Cz N b).bind λd=>
 some d) (some false)).bind λg=>
 some (g&&((decide (b≠0))||(decide (a=0))))
def FI (N:Nat) (b:Int) (a:Int):Option Bool:=
 (DB N b 0 (Bw (a-1))).bind λc=>
 some c
def Io (N:Nat) (c:AU) (b:Int) (a:Int):Option Bool:=
 (cond (decide (a=(-1))) (some true) ((FI N a (↑c.A.length:Int)).bind λd=>
 some (d&&(decide (a≠b))))).bind λg=>
 some g
def Ck (N:Nat) (a:Int):Option Bool:=
 some (decide (a≤1125899906842624))
def Dc (N:Nat) (d:Dm) (g:Int→Option Bool):Nat→Int→Int→Option Bool
 |0,_,_=>none
 |j+1,b,a=>
 cond (decide (a<(↑d.Bf.length:Int))) (
 (ix d.Bf a).bind λc=>
 (Cz N c).bind λi=>
 cond (!i) (
 some false) (
 Dc N d g j (Bw (b+c)) (Bw (a+1)))) (
 g b)
def Db (N:Nat) (c:AU) (g:Dm) (d:Int) (i:Int→Option Bool):Nat→Int→Int→Option Bool
 |0,_,_=>none
 |m+1,j,b=>
 cond (decide (b<(↑g.X.length:Int))) (
 (ix g.X b).bind λa=>
 (cond ((decide (a.Bg≤j))||(decide (c.T≤a.Bg))) (some true) ((Cz N a.Bp).bind λk=>
 some (!k))).bind λl=>
 cond l (
 some false) (
 Db N c g d i m a.Bg (Bw (b+1)))) (
 i d)
def Eg (N:Nat) (a:AU) (c:Dm) (d:Int→Option Bool) (b:Int):Option Bool:=
 Db N a c b d N (-1) 0
def DD (N:Nat) (a:Int) (b:Int→Int→Option Bool) (c:Int):Option Bool:=
 b c (Bw (a+1))
def CP (N:Nat) (b:AU) (d:Int→Option Bool):Nat→Int→Int→Option Bool
 |0,_,_=>none
 |y+1,g,c=>
 cond (decide (c<(↑b.A.length:Int))) (
 (ix b.A c).bind λa=>
 (DB N a.B 0 3).bind λj=>
 (cond (!j) (some true) ((DB N a.As 0 2).bind λk=>
 some (!k))).bind λl=>
 (cond l (some true) ((DB N a.N 0 240).bind λm=>
 some (!m))).bind λn=>
 (cond n (some true) ((Cz N a.Ae).bind λo=>
 some (!o))).bind λp=>
 (cond p (some true) ((Cz N a.Bc).bind λq=>
 some (!q))).bind λs=>
 (cond s (some true) ((Eu N a.Bt).bind λt=>
 some (!t))).bind λu=>
 (cond (u||(decide ((↑a.Bf.length:Int)≠(↑b.J.length:Int)))) (some true) ((G5 N a.L a.I).bind λv=>
 some (!v))).bind λw=>
 (cond w (some true) ((Io N b c a.Aq).bind λi=>
 some (!i))).bind λx=>
 cond x (
 some false) (
 Dc N a (Eg N b a (DD N c (CP N b d y))) N g 0)) (
 d g)
def Hg (N:Nat) (a:AU):Option Bool:=
 CP N a (Ck N) N 0 0
def Ik (N:Nat) (a:Int):Option Int:=
 some a
def GT (N:Nat) (b:(Int→Option Bool)) (d:Int→Option Int):Nat→Int→Int→Option Int
 |0,_,_=>none
 |i+1,a,c=>
 cond (decide (a<c)) (
 (b (Bw (Ew .u64 (IntKind.wrap .u64 (Bw (a+c))) 1))).bind λg=>
 cond (!g) (
 GT N b d i (Bw ((Bw (Ew .u64 (IntKind.wrap .u64 (Bw (a+c))) 1))+1)) c) (
 GT N b d i a (Bw (Ew .u64 (IntKind.wrap .u64 (Bw (a+c))) 1)))) (
 d a)
def Ko (N:Nat) (a:Int) (b:(Int→Option Bool)):Option Int:=
 GT N b (Ik N) N 0 a
def FH (N:Nat) (c1_:(List BS)) (c2_:Int) (a:Int):Option Bool:=
 (ix c1_ a).bind λb=>
 some (decide (c2_<b.K))
def HV (N:Nat) (a:Int) (b:Int):Option (Int×Int):=
 some ((IntKind.wrap .u64 ((IntKind.wrap .u64 ((IntKind.wrap .u64 ((Ew .u64 a 32)*(Ew .u64 b 32)))+(Ew .u64 (IntKind.wrap .u64 ((IntKind.wrap .u64 ((Ew .u64 a 32)*(IF .and .u64 b 4294967295)))+(Ew .u64 (IntKind.wrap .u64 ((IF .and .u64 a 4294967295)*(IF .and .u64 b 4294967295))) 32))) 32)))+(Ew .u64 (IntKind.wrap .u64 ((IF .and .u64 (IntKind.wrap .u64 ((IntKind.wrap .u64 ((Ew .u64 a 32)*(IF .and .u64 b 4294967295)))+(Ew .u64 (IntKind.wrap .u64 ((IF .and .u64 a 4294967295)*(IF .and .u64 b 4294967295))) 32))) 4294967295)+(IntKind.wrap .u64 ((IF .and .u64 a 4294967295)*(Ew .u64 b 32))))) 32))),(IntKind.wrap .u64 (a*b)))
def GU (N:Nat) (a:Int) (b:Int):Option Int:=
 (Wl L5 (IntKind.wrap .u8 a)).bind λc=>
 some (Bw (b+(Bw c)))
def GV (N:Nat) (a:Int) (b:Int):Option Int:=
 cond (decide (256≤a)) (
 GU N (Ew .u64 a 8) (Bw (b+8))) (
 GU N a b)
def GW (N:Nat) (a:Int) (b:Int):Option Int:=
 cond (decide (65536≤a)) (
 GV N (Ew .u64 a 16) (Bw (b+16))) (
 GV N a b)
def IS (N:Nat) (a:Int):Option Int:=
 cond (decide (4294967296≤a)) (
 GW N (Ew .u64 a 32) 32) (
 GW N a 0)
def FD (N:Nat) (a:Int):Option Int:=
 (IS N a).bind λb=>
 some (Bw (64-b))
def D8 (N:Nat) (b:Int) (a:Int) (d:Nat) (j:Nat) (g:Int→Option (Int×Int)):Nat→Int→Int→Option (Int×Int)
 |0,_,_=>none
 |k+1,i,c=>
 cond ((decide (4294967296≤c))||(decide ((IntKind.wrap .u64 ((IntKind.wrap .u64 (4294967296*i))+(IF .and .u64 (D4 .u64 b j) 4294967295)))<(IntKind.wrap .u64 (c*(IF .and .u64 (D4 .u64 a d) 4294967295)))))) (
 cond (decide (4294967296≤(IntKind.wrap .u64 (i+(Ew .u64 (D4 .u64 a d) 32))))) (
 g (IntKind.wrap .u64 (c-1))) (
 D8 N b a d j g k (IntKind.wrap .u64 (i+(Ew .u64 (D4 .u64 a d) 32))) (IntKind.wrap .u64 (c-1)))) (
 g c)
def FE (N:Nat) (c:Int) (a:Int) (b:Int) (n:Int) (d:Nat) (k:Nat) (l:Nat) (g:Nat) (i:Int) (j:Int):Option (Int×Int):=
 (OK (IntKind.wrap .u64 n)).bind λm=>
 some ((IntKind.wrap .u64 ((IntKind.wrap .u64 (i*4294967296))+j)),(Ew .u64 (IntKind.wrap .u64 ((IntKind.wrap .u64 ((IntKind.wrap .u64 ((IntKind.wrap .u64 ((IntKind.wrap .u64 ((IntKind.wrap .u64 ((IF .or .u64 (D4 .u64 c k) (Ew .u64 a l))*4294967296))+(Ew .u64 (D4 .u64 a g) 32)))-(IntKind.wrap .u64 (i*(D4 .u64 b d)))))*4294967296))+(IF .and .u64 (D4 .u64 a g) 4294967295)))-(IntKind.wrap .u64 (j*(D4 .u64 b d))))) m))
def D9 (N:Nat) (c:Int) (a:Int) (b:Int) (m:Int) (d:Nat) (i:Nat) (j:Nat) (g:Nat) (k:Int):Option (Int×Int):=
 (P0 .u64 (IntKind.wrap .u64 ((IntKind.wrap .u64 ((IntKind.wrap .u64 ((IF .or .u64 (D4 .u64 c i) (Ew .u64 a j))*4294967296))+(Ew .u64 (D4 .u64 a g) 32)))-(IntKind.wrap .u64 (k*(D4 .u64 b d))))) (Ew .u64 (D4 .u64 b d) 32)).bind λl=>
 D8 N a b d g (FE N c a b m d i j g k) N (IntKind.wrap .u64 ((IntKind.wrap .u64 ((IntKind.wrap .u64 ((IntKind.wrap .u64 ((IF .or .u64 (D4 .u64 c i) (Ew .u64 a j))*4294967296))+(Ew .u64 (D4 .u64 a g) 32)))-(IntKind.wrap .u64 (k*(D4 .u64 b d)))))-(IntKind.wrap .u64 (l*(Ew .u64 (D4 .u64 b d) 32))))) l
def Dh (N:Nat) (b:Int) (a:Int) (d:Nat) (j:Nat) (g:Int→Option (Int×Int)):Nat→Int→Int→Option (Int×Int)
 |0,_,_=>none
 |k+1,c,i=>
 cond ((decide (4294967296≤c))||(decide ((IntKind.wrap .u64 ((IntKind.wrap .u64 (4294967296*i))+(Ew .u64 (D4 .u64 b j) 32)))<(IntKind.wrap .u64 (c*(IF .and .u64 (D4 .u64 a d) 4294967295)))))) (
 cond (decide (4294967296≤(IntKind.wrap .u64 (i+(Ew .u64 (D4 .u64 a d) 32))))) (
 g (IntKind.wrap .u64 (c-1))) (
 Dh N b a d j g k (IntKind.wrap .u64 (c-1)) (IntKind.wrap .u64 (i+(Ew .u64 (D4 .u64 a d) 32))))) (
 g c)
def Ft (N:Nat) (c:Int) (b:Int) (a:Int):Option (Int×Int):=
 cond (decide (a=0)) (
 none) (
 cond (decide (a≤c)) (
 none) (
 cond (decide (c=0)) (
 (P0 .u64 b a).bind λm=>
 (Sg b a).bind λn=>
 some (m,n)) (
 (FD N a).bind λj=>
 (OK (IntKind.wrap .u64 j)).bind λd=>
 (OK (IntKind.wrap .u64 j)).bind λg=>
 (OK (IntKind.wrap .u64 (64-(IntKind.wrap .u64 j)))).bind λi=>
 (OK (IntKind.wrap .u64 j)).bind λk=>
 (P0 .u64 (IF .or .u64 (D4 .u64 c g) (Ew .u64 b i)) (Ew .u64 (D4 .u64 a d) 32)).bind λl=>
 Dh N b a d k (D9 N c b a j d g i k) N l (IntKind.wrap .u64 ((IF .or .u64 (D4 .u64 c g) (Ew .u64 b i))-(IntKind.wrap .u64 (l*(Ew .u64 (D4 .u64 a d) 32))))))))
def GA (N:Nat) (c:Int) (b:Int) (a:Int):Option (Int×Int×Bool):=
 cond ((((((decide (c<0))||(decide (1125899906842624<c)))||(decide (b<0)))||(decide (1125899906842624<b)))||(decide (a<1)))||(decide (1125899906842624<a))) (
 some (0,0,false)) (
 (HV N (IntKind.wrap .u64 c) (IntKind.wrap .u64 b)).bind λg=>
 cond (decide ((IntKind.wrap .u64 a)≤g.1)) (
 some (0,0,false)) (
 (Ft N g.1 g.2 (IntKind.wrap .u64 a)).bind λd=>
 cond (decide (1125899906842624<d.1)) (
 some (0,0,false)) (
 some ((Bw d.1),(Bw d.2),true))))
def HC (N:Nat) (a:(List BS)) (d:Int):Option (Int×Bool):=
 (Ko N (↑a.length:Int) (λx=>FH N a d x)).bind λb=>
 cond (decide (b=0)) (
 (ix a 0).bind λi=>
 some (i.Q,false)) (
 (ix a (Bw (b-1))).bind λc=>
 cond (decide (b=(↑a.length:Int))) (
 some (c.Q,false)) (
 (ix a b).bind λj=>
 (ix a b).bind λk=>
 (GA N (Bw (d-c.K)) (Bw (j.Q-c.Q)) (Bw (k.K-c.K))).bind λg=>
 some ((Bw (c.Q+g.1)),(decide (0<g.2.1)))))
def GX (N:Nat) (b:(List BS)) (a:(List BS)) (i:Option Bool):Nat→Int→Option Bool
 |0,_=>none
 |j+1,c=>
 cond (decide (c<(↑a.length:Int))) (
 (ix a c).bind λd=>
 (HC N b d.K).bind λg=>
 cond ((decide (d.Q<g.1))||((decide (g.1=d.Q))&&g.2)) (
 some false) (
 GX N b a i j (Bw (c+1)))) (
 i)
def Hx (N:Nat):Option Bool:=
 some true
def GZ (N:Nat) (a:(List BS)) (b:(List BS)):Option Bool:=
 GX N a b (Hx N) N 0
def GY (N:Nat) (a:(List BS)) (b:(List BS)) (d:Option Bool):Nat→Int→Option Bool
 |0,_=>none
 |j+1,c=>
 cond (decide (c<(↑a.length:Int))) (
 (ix a c).bind λg=>
 (HC N b g.K).bind λi=>
 cond (decide (i.1<g.Q)) (
 some false) (
 GY N a b d j (Bw (c+1)))) (
 d)
def Gh (N:Nat) (a:(List BS)) (b:(List BS)):Option Bool:=
 (Eu N a).bind λc=>
 (cond (!c) (some true) ((Eu N b).bind λd=>
 some (!d))).bind λg=>
 cond g (
 some false) (
 GY N a b (GZ N a b) N 0)
def EB (N:Nat) (a:BL) (b:Bool):Option Bool:=
 cond b (
 (Cz N a.Al).bind λc=>
 (cond c ((Cz N a.L).bind λd=>
 some d) (some false)).bind λg=>
 (cond g ((DB N a.I 1 1125899906842624).bind λi=>
 some i) (some false)).bind λj=>
 some j) (
 cond (decide (a.B=2)) (
 (Cz N a.L).bind λk=>
 (cond k ((DB N a.R 1 64).bind λl=>
 some l) (some false)).bind λm=>
 (cond m ((DB N a.Ab 0 a.R).bind λn=>
 some n) (some false)).bind λo=>
 some o) (
 cond (decide (a.B=3)) (
 (Cz N a.L).bind λp=>
 (cond p ((DB N a.I 1 1125899906842624).bind λq=>
 some q) (some false)).bind λs=>
 (cond s ((Cz N a.Ah).bind λt=>
 some t) (some false)).bind λu=>
 (cond u ((Cz N a.Ai).bind λv=>
 some v) (some false)).bind λw=>
 some (w&&(decide (a.Ai<a.Ah)))) (
 (Cz N a.L).bind λx=>
 (cond x ((DB N a.I 1 1125899906842624).bind λy=>
 some y) (some false)).bind λz=>
 (cond z ((G5 N a.Ac a.Aa).bind λA=>
 some A) (some false)).bind λD=>
 some (D&&(decide (a.C≠(-1)))))))
def Fk (N:Nat) (a:BL):Option Bool:=
 cond (decide (a.B=0)) (
 (Eu N a.Af).bind λb=>
 (cond b ((Eu N a.Y.Ar).bind λc=>
 some c) (some false)).bind λd=>
 (cond d ((Eu N a.Y.Aw).bind λg=>
 some g) (some false)).bind λi=>
 (cond i ((Gh N a.Y.Ar a.Af).bind λj=>
 some j) (some false)).bind λk=>
 (cond k ((Gh N a.Af a.Y.Aw).bind λl=>
 some l) (some false)).bind λm=>
 (cond m ((DB N a.R 0 64).bind λn=>
 some n) (some false)).bind λo=>
 (cond o ((DB N a.Ab 0 a.R).bind λp=>
 some p) (some false)).bind λq=>
 (cond q ((Cz N a.Aj).bind λs=>
 some s) (some false)).bind λt=>
 (cond t ((G5 N a.Ac a.Aa).bind λu=>
 some u) (some false)).bind λv=>
 some (v&&((decide (a.C≠(-1)))||(decide (a.Aa=0))))) (
 cond (decide (a.B=1)) (
 EB N a (decide (a.B=1))) (
 EB N a (decide (a.B=5))))
def Fj (N:Nat) (a:BL):Option Bool:=
 cond ((!(decide (a.B=0)))&&((((decide (0<(↑a.Af.length:Int)))||(decide (0<(↑a.Y.Ar.length:Int))))||(decide (0<(↑a.Y.Aw.length:Int))))||(decide (a.Aj≠0)))) (
 some false) (
 cond (((!(decide (a.B=0)))&&(decide (a.B≠2)))&&((decide (a.R≠0))||(decide (a.Ab≠0)))) (
 some false) (
 cond (((decide (a.B≠1))&&(decide (a.B≠5)))&&(decide (a.Al≠0))) (
 some false) (
 cond (((decide (a.B=0))&&(decide (a.L≠0)))||(((decide (a.B=0))||(decide (a.B=2)))&&(decide (a.I≠0)))) (
 some false) (
 cond ((decide (a.B≠3))&&((decide (a.Ah≠0))||(decide (a.Ai≠0)))) (
 some false) (
 some (((decide (a.B=0))||(decide (a.B=4)))||((decide (a.Ac=0))&&(decide (a.Aa=0)))))))))
def DY (N:Nat):Option Bool:=
 some true
def Cf (N:Nat) (a:AU) (d:Option Bool):Nat→Int→Option Bool
 |0,_=>none
 |t+1,c=>
 cond (decide (c<(↑a.E.length:Int))) (
 (ix a.E c).bind λb=>
 (DB N b.B 0 5).bind λg=>
 (cond (!g) (some true) ((FI N b.G (↑a.A.length:Int)).bind λi=>
 some (!i))).bind λj=>
 (cond j (some true) ((Io N a b.G b.C).bind λk=>
 some (!k))).bind λl=>
 (cond l (some true) ((DB N b.N 0 240).bind λm=>
 some (!m))).bind λn=>
 (cond n (some true) ((Fk N b).bind λo=>
 some (!o))).bind λp=>
 (cond p (some true) ((Fj N b).bind λq=>
 some (!q))).bind λs=>
 cond s (
 some false) (
 Cf N a d t (Bw (c+1)))) (
 d)
def EE (N:Nat) (a:AU):Option Bool:=
 Cf N a (DY N) N 0
def Jf (N:Nat) (c:AU) (a:Int) (b:Int):Option Bool:=
 cond (decide (b=(-1))) (
 some (decide (a=2))) (
 (ix c.A b).bind λd=>
 some ((decide (d.As=a))||(decide (d.As=(Bw (a+1))))))
def Dv (N:Nat) (a:AU) (g:Option Bool):Nat→Int→Option Bool
 |0,_=>none
 |m+1,d=>
 cond (decide (d<(↑a.E.length:Int))) (
 (ix a.E d).bind λb=>
 (ix a.A b.G).bind λc=>
 (Jf N a c.As b.C).bind λi=>
 (cond (!i) (some true) ((cond (decide (b.B=4)) ((ix a.A b.C).bind λj=>
 some (decide (j.As≠c.As))) (some false)).bind λk=>
 some k)).bind λl=>
 cond l (
 some false) (
 Dv N a g m (Bw (d+1)))) (
 g)
def E9 (N:Nat):Option Bool:=
 some true
def Dx (N:Nat) (a:AU):Option Bool:=
 Dv N a (E9 N) N 0
def Dw (N:Nat) (a:AU) (c:Option Bool):Nat→Int→Option Bool
 |0,_=>none
 |i+1,b=>
 cond (decide (b<(↑a.A.length:Int))) (
 (ix a.A b).bind λd=>
 (Jf N a d.As d.Aq).bind λg=>
 cond (!g) (
 some false) (
 Dw N a c i (Bw (b+1)))) (
 c)
def HK (N:Nat) (a:AU):Option Bool:=
 Dw N a (Dx N a) N 0
def Hy (N:Nat) (a:Int):Option Int:=
 some (Bw a)
def ET (N:Nat) (b:Int) (a:Int):Option Int:=
 cond (decide (a=0)) (
 some 0) (
 cond (decide (a<b)) (
 some 1099511627777) (
 (HV N (IntKind.wrap .u64 b) 1099511627776).bind λd=>
 (Ft N d.1 d.2 (IntKind.wrap .u64 a)).bind λc=>
 cond (decide (c.2≠0)) (
 Hy N (IntKind.wrap .u64 (c.1+1))) (
 Hy N c.1)))
def Cs (N:Nat) (a:Int):Option Int:=
 some a
def Cr (N:Nat) (a:(List BS)) (c:Int→Option Int):Nat→Int→Int→Option Int
 |0,_,_=>none
 |m+1,d,b=>
 cond (decide (b<(↑a.length:Int))) (
 (ix a b).bind λg=>
 (ix a (Bw (b-1))).bind λi=>
 (ix a b).bind λj=>
 (ix a (Bw (b-1))).bind λk=>
 (ET N (Bw (g.Q-i.Q)) (Bw (j.K-k.K))).bind λl=>
 Cr N a c m (max d l) (Bw (b+1))) (
 c d)
def DG (N:Nat) (a:Int) (b:Int→Int→Option Int) (c:Int):Option Int:=
 b c (Bw (a+1))
def CU (N:Nat) (a:(List (List BS))) (c:Int→Option Int):Nat→Int→Int→Option Int
 |0,_,_=>none
 |i+1,g,b=>
 cond (decide (b<(↑a.length:Int))) (
 (ix a b).bind λd=>
 Cr N d (DG N b (CU N a c i)) N g 1) (
 c g)
def Fa (N:Nat) (a:(List (List BS))):Option Int:=
 CU N a (Cs N) N 0 0
def CN (N:Nat) (b:Int) (c:Int→(List Int)→Option Bool) (a:List Int):Option Bool:=
 c (Bw (b+1)) a
def DP (N:Nat) (b:List Int) (a:BL) (g:(List Int)→Option Bool) (i:Bool):Option Bool:=
 cond i (
 (ix b a.G).bind λn=>
 (ix b a.G).bind λj=>
 (ET N a.L a.I).bind λk=>
 (ix b a.G).bind λo=>
 (ix b a.G).bind λp=>
 g (upd b a.G (Bw (j+k)))) (
 cond (decide (a.B=4)) (
 (ix b a.G).bind λq=>
 (ix b a.G).bind λc=>
 (ET N a.L a.I).bind λd=>
 (ix b a.G).bind λs=>
 (ix b a.G).bind λt=>
 (ix (upd b a.G (Bw (c+(Bw (2*d))))) a.C).bind λu=>
 (ix (upd b a.G (Bw (c+(Bw (2*d))))) a.C).bind λl=>
 (ET N a.Ac a.Aa).bind λm=>
 (ix (upd b a.G (Bw (c+(Bw (2*d))))) a.C).bind λv=>
 (ix (upd b a.G (Bw (c+(Bw (2*d))))) a.C).bind λw=>
 g (upd (upd b a.G (Bw (c+(Bw (2*d))))) a.C (Bw (l+(Bw (2*m)))))) (
 g b))
def Hp (N:Nat) (b:Bool→Option Bool) (a:Bool):Option Bool:=
 b a
def BW (N:Nat) (c:AU) (j:(List Int)→Option Bool):Nat→Int→(List Int)→Option Bool
 |0,_,_=>none
 |k+1,i,b=>
 cond (decide (i<(↑c.E.length:Int))) (
 (ix c.E i).bind λa=>
 cond (decide (a.B=0)) (
 (ix b a.G).bind λn=>
 (ix b a.G).bind λd=>
 (Fa N ([a.Af,a.Y.Ar,a.Y.Aw]:List (List BS))).bind λg=>
 (ix b a.G).bind λo=>
 (ix b a.G).bind λp=>
 cond (decide (a.C≠(-1))) (
 (ix (upd b a.G (Bw (d+g))) a.C).bind λq=>
 (ix (upd b a.G (Bw (d+g))) a.C).bind λl=>
 (ET N a.Ac a.Aa).bind λm=>
 (ix (upd b a.G (Bw (d+g))) a.C).bind λs=>
 (ix (upd b a.G (Bw (d+g))) a.C).bind λt=>
 CN N i (BW N c j k) (upd (upd b a.G (Bw (d+g))) a.C (Bw (l+m)))) (
 CN N i (BW N c j k) (upd b a.G (Bw (d+g))))) (
 cond (decide (a.B=1)) (
 DP N b a (CN N i (BW N c j k)) (decide (a.B=1))) (
 cond (decide (a.B=5)) (
 Hp N (DP N b a (CN N i (BW N c j k))) (decide (a.B=5))) (
 Hp N (DP N b a (CN N i (BW N c j k))) (decide (a.B=3)))))) (
 j b)
def C0 (N:Nat) (b:List Int) (c:Option Bool):Nat→Int→Option Bool
 |0,_=>none
 |i+1,a=>
 cond (decide (a<(↑b.length:Int))) (
 (ix b a).bind λg=>
 (ix b a).bind λd=>
 cond (decide (1099511627776<d)) (
 some false) (
 C0 N b c i (Bw (a+1)))) (
 c)
def Da (N:Nat):Option Bool:=
 some true
def CO (N:Nat) (a:List Int):Option Bool:=
 C0 N a (Da N) N 0
def Cj (N:Nat) (a:AU) (b:List Int):Option Bool:=
 BW N a (CO N) N 0 b
def C1 (N:Nat) (b:AU) (d:(List Int)→Option Bool):Nat→Int→(List Int)→Option Bool
 |0,_,_=>none
 |j+1,a,c=>
 cond (decide (a<(↑b.A.length:Int))) (
 (ix b.A a).bind λg=>
 (ET N g.L g.I).bind λi=>
 (ix c a).bind λk=>
 (ix c a).bind λl=>
 C1 N b d j (Bw (a+1)) (upd c a i)) (
 d c)
def Ev (N:Nat) (a:AU):Option Bool:=
 chk (Jk (↑a.A.length:Int) (↑a.A.length:Int) 8) <|
 C1 N a (Cj N a) N 0 (List.replicate ((↑a.A.length:Int):Int).toNat (0:Int))
def EI (N:Nat) (a:AU) (c:Option Bool):Nat→Int→Option Bool
 |0,_=>none
 |i+1,b=>
 cond (decide (b<(↑a.Ay.length:Int))) (
 (ix a.Ay b).bind λd=>
 (DB N d.Ax 0 1073741824).bind λg=>
 cond (!g) (
 some false) (
 EI N a c i (Bw (b+1)))) (
 c)
def Fx (N:Nat):Option Bool:=
 some true
def EK (N:Nat) (a:AU):Option Bool:=
 EI N a (Fx N) N 0
def EJ (N:Nat) (a:AU) (d:Option Bool):Nat→Int→Option Bool
 |0,_=>none
 |t+1,c=>
 cond (decide (c<(↑a.Am.length:Int))) (
 (ix a.Am c).bind λb=>
 (FI N b.An (↑a.A.length:Int)).bind λg=>
 (cond (!g) (some true) ((Cz N b.Bm).bind λi=>
 some (!i))).bind λj=>
 (cond j (some true) ((DB N b.Bl 0 24).bind λk=>
 some (!k))).bind λl=>
 (cond l (some true) ((DB N b.Bq 0 1073741824).bind λm=>
 some (!m))).bind λn=>
 (cond n (some true) ((Cz N b.Bn).bind λo=>
 some (!o))).bind λp=>
 (cond p (some true) ((DB N b.Bk 0 128).bind λq=>
 some (!q))).bind λs=>
 cond s (
 some false) (
 EJ N a d t (Bw (c+1)))) (
 d)
def H7 (N:Nat) (a:AU):Option Bool:=
 EJ N a (EK N a) N 0
def Fb (N:Nat):Option Bool:=
 some true
def EA (N:Nat) (a:AU) (d:Option Bool):Nat→Int→Option Bool
 |0,_=>none
 |o+1,c=>
 cond (decide (c<(↑a.Au.length:Int))) (
 (ix a.Au c).bind λb=>
 (DB N b.B 0 2).bind λg=>
 (cond (!g) (some true) ((DB N b.V 0 1099511627776).bind λi=>
 some (!i))).bind λj=>
 (cond j (some true) ((DB N b.Bo 0 1440).bind λk=>
 some (!k))).bind λl=>
 cond l (
 some false) (
 (ix ([(↑a.A.length:Int),a.T,(↑a.E.length:Int)]:List Int) b.B).bind λm=>
 (FI N b.Z m).bind λn=>
 cond (!n) (
 some false) (
 EA N a d o (Bw (c+1))))) (
 d)
def Hh (N:Nat) (a:AU):Option Bool:=
 EA N a (Fb N) N 0
def Fy (N:Nat):Option Bool:=
 some true
def EL (N:Nat) (a:AU) (d:Option Bool):Nat→Int→Option Bool
 |0,_=>none
 |u+1,c=>
 cond (decide (c<(↑a.Av.length:Int))) (
 (ix a.Av c).bind λb=>
 (FI N b.G (↑a.Am.length:Int)).bind λg=>
 (cond (!g) (some true) ((FI N b.C (Bw ((↑a.Am.length:Int)+(↑a.Ay.length:Int)))).bind λi=>
 some (!i))).bind λj=>
 (cond (j||(decide (b.G=b.C))) (some true) ((DB N b.Br 1 24).bind λk=>
 some (!k))).bind λl=>
 (cond l (some true) ((DB N b.Bs 0 1073741824).bind λm=>
 some (!m))).bind λn=>
 (cond n (some true) ((Cz N b.Bj).bind λo=>
 some (!o))).bind λp=>
 cond p (
 some false) (
 (cond ((decide (b.Bh=(-1)))&&(decide (b.Bj≠0))) (some true) ((cond (decide (b.Bh≠(-1))) ((FI N b.Bh (↑a.A.length:Int)).bind λq=>
 some (!q)) (some false)).bind λs=>
 some s)).bind λt=>
 cond t (
 some false) (
 EL N a d u (Bw (c+1))))) (
 d)
def H8 (N:Nat) (a:AU):Option Bool:=
 EL N a (Fy N) N 0
def GB (N:Nat) (a:AU):Option Bool:=
 (IT N a).bind λv=>
 (cond v ((Iy N a).bind λb=>
 some b) (some false)).bind λc=>
 (cond c ((Hg N a).bind λd=>
 some d) (some false)).bind λg=>
 (cond g ((EE N a).bind λi=>
 some i) (some false)).bind λj=>
 (cond j ((HK N a).bind λk=>
 some k) (some false)).bind λl=>
 (cond l ((Ev N a).bind λm=>
 some m) (some false)).bind λn=>
 (cond n ((H7 N a).bind λo=>
 some o) (some false)).bind λp=>
 (cond p ((Hh N a).bind λq=>
 some q) (some false)).bind λs=>
 (cond s ((H8 N a).bind λt=>
 some t) (some false)).bind λu=>
 some u
def Gs (N:Nat):Option Bool:=
 some true
def Eo (N:Nat) (a:(List Int)) (c:Option Bool):Nat→Int→Int→Option Bool
 |0,_,_=>none
 |i+1,g,d=>
 cond (decide (d<(↑a.length:Int))) (
 (ix a d).bind λb=>
 cond ((decide (b<0))||(decide ((Bw (1125899906842624-g))<b))) (
 some false) (
 Eo N a c i (Bw (g+b)) (Bw (d+1)))) (
 c)
def IR (N:Nat) (a:(List Int)):Option Bool:=
 Eo N a (Gs N) N 0 0
def Je (N:Nat) (b:(List Int)) (a:Int):Option Bool:=
 (cond (((decide (0≤a))&&(decide (a≤16)))&&(decide ((↑b.length:Int)=a))) ((IR N b).bind λc=>
 some c) (some false)).bind λd=>
 some d
def Gx (N:Nat) (b:Int) (a:Int):Option Int:=
 cond ((decide (0<a))&&(decide ((Bw (9223372036854775807-a))<b))) (
 some 9223372036854775807) (
 cond ((decide (a<0))&&(decide (b<(Bw ((-9223372036854775808)-a))))) (
 some (-9223372036854775808)) (
 some (Bw (b+a))))
def IJ (N:Nat) (a:Int):Option Int:=
 some a
def Gt (N:Nat) (a:(List Int)) (c:Int→Option Int):Nat→Int→Int→Option Int
 |0,_,_=>none
 |j+1,i,b=>
 cond (decide (b<(↑a.length:Int))) (
 (ix a b).bind λd=>
 (Gx N i d).bind λg=>
 Gt N a c j g (Bw (b+1))) (
 c i)
def Ef (N:Nat) (a:(List Int)):Option Int:=
 Gt N a (IJ N) N 0 0
def Gj (N:Nat) (b:Int) (a:Int):Option Bool:=
 some ((decide (0≤b))&&(decide (b<a)))
def GP (N:Nat) (b:AU) (a:A7) (j:Int→Option (Int×Bool)):Nat→Int→Int→Option (Int×Bool)
 |0,_,_=>none
 |o+1,g,i=>
 cond (decide (i<(↑a.M.length:Int))) (
 (ix a.M i).bind λd=>
 (cond (decide (d.Ak<a.D)) (some true) ((Gj N d.C (↑b.A.length:Int)).bind λk=>
 some (!k))).bind λl=>
 (cond l (some true) ((Je N d.Ag (↑b.J.length:Int)).bind λm=>
 some (!m))).bind λn=>
 cond n (
 some (0,false)) (
 (Ef N d.Ag).bind λc=>
 cond ((decide (c≤0))||(decide (1125899906842624<(Bw (g+c))))) (
 some (0,false)) (
 GP N b a j o (Bw (g+c)) (Bw (i+1))))) (
 j g)
def Hw (N:Nat) (a:Int):Option (Int×Bool):=
 some (a,true)
def FP (N:Nat) (a:AU) (b:A7) (c:Int):Option (Int×Bool):=
 GP N a b (Hw N) N c 0
def FO (N:Nat) (b:AU) (a:A7) (g:Int→Option (Int×Bool)):Nat→Int→Int→Option (Int×Bool)
 |0,_,_=>none
 |l+1,c,d=>
 cond (decide (d<(↑a.F.length:Int))) (
 (ix a.F d).bind λi=>
 (Je N i (↑b.J.length:Int)).bind λk=>
 cond (!k) (
 some (0,false)) (
 (Ef N i).bind λj=>
 cond (decide (1125899906842624<(Bw (c+j)))) (
 some (0,false)) (
 FO N b a g l (Bw (c+j)) (Bw (d+1))))) (
 g c)
def Jp (N:Nat) (a:AU) (b:A7):Option (Int×Bool):=
 FO N a b (FP N a b) N 0 0
def HR (N:Nat) (a:Int):Option (Int×Bool):=
 some (a,true)
def Fm (N:Nat) (b:(List Int)) (a:Int) (g:Int→Option (Int×Bool)):Nat→Int→Int→Option (Int×Bool)
 |0,_,_=>none
 |j+1,i,c=>
 cond (decide (c<(↑b.length:Int))) (
 (ix b c).bind λd=>
 cond ((decide (d<0))||(decide ((Bw (a-i))<d))) (
 some (0,false)) (
 Fm N b a g j (Bw (i+d)) (Bw (c+1)))) (
 g i)
def Ih (N:Nat) (b:(List Int)) (a:Int):Option (Int×Bool):=
 Fm N b a (HR N) N 0 0
def GG (N:Nat) (d:AU) (g:A7) (i:Option Bool):Nat→Int→Option Bool
 |0,_=>none
 |j+1,b=>
 cond (decide (b<(↑d.E.length:Int))) (
 (ix d.E b).bind λc=>
 (ix g.P b).bind λa=>
 cond ((((decide (a.W<0))||(decide (c.R<a.W)))||(decide (a.Z<0)))||(decide (c.R<a.Z))) (
 some false) (
 cond ((a.Ao&&(decide (c.B≠5)))&&(decide (c.B≠3))) (
 some false) (
 GG N d g i j (Bw (b+1))))) (
 i)
def GI (N:Nat) (d:AU) (a:A7):Option Bool:=
 (Jp N d a).bind λb=>
 cond (!b.2) (
 some false) (
 (Ih N a.S 1152921504606846976).bind λc=>
 cond (!c.2) (
 some false) (
 (Ih N a.U (Bw ((Bw (c.1+1125899906842624))-b.1))).bind λg=>
 some g.2))
def GJ (N:Nat) (a:AU) (b:A7):Option Bool:=
 GG N a b (GI N a b) N 0
def GH (N:Nat) (a:AU) (b:A7) (d:Option Bool):Nat→Int→Option Bool
 |0,_=>none
 |l+1,c=>
 cond (decide (c<(↑a.A.length:Int))) (
 (ix a.A c).bind λk=>
 (ix b.O c).bind λg=>
 (cond (decide (g<0)) (some true) ((ix b.O c).bind λi=>
 some (decide ((max 0 (Bw (k.I-1)))<i)))).bind λj=>
 cond j (
 some false) (
 GH N a b d l (Bw (c+1)))) (
 d)
def IQ (N:Nat) (b:AU) (a:A7):Option Bool:=
 cond (((((((decide (a.D<0))||(decide (16777216<a.D)))||(decide ((↑a.F.length:Int)≠(↑b.A.length:Int))))||(decide ((↑a.O.length:Int)≠(↑b.A.length:Int))))||(decide ((↑a.P.length:Int)≠(↑b.E.length:Int))))||(decide ((↑a.S.length:Int)≠(↑b.J.length:Int))))||(decide ((↑a.U.length:Int)≠(↑b.J.length:Int)))) (
 some false) (
 GH N b a (GJ N b a) N 0)
def Cy (N:Nat) (a:(List BG)):Option (List BG):=
 chk (room (([]:List BG).length+a.length) 24) <|
 some (([]:List BG)++a)
def FT (N:Nat) (a:A7) (d:List (List Int)):Option A7:=
 (DC N a.O).bind λg=>
 (Cy N a.P).bind λi=>
 (DC N a.S).bind λb=>
 (DC N a.U).bind λc=>
 some (⟨a.D,d,g,a.M,i,b,c⟩:A7)
def FQ (N:Nat) (b:A7) (d:(List (List Int))→Option A7):Nat→Int→(List (List Int))→Option A7
 |0,_,_=>none
 |j+1,a,c=>
 cond (decide (a<(↑b.F.length:Int))) (
 (ix b.F a).bind λg=>
 (DC N g).bind λi=>
 (ix c a).bind λk=>
 (ix c a).bind λl=>
 FQ N b d j (Bw (a+1)) (upd c a i)) (
 d c)
def Jq (N:Nat) (a:A7):Option A7:=
 chk (Jk (↑a.F.length:Int) (↑a.F.length:Int) 24) <|
 FQ N a (FT N a) N 0 (List.replicate ((↑a.F.length:Int):Int).toNat ([]:(List Int)))
def GK (N:Nat) (a:BG) (b:Bool) (c:Bool):Option BG:=
 some (⟨a.W,a.Z,b,c⟩:BG)
def Gv (N:Nat) (d:BL) (a:BG) (b:Int) (c:Bool→Bool→Option BG) (g:Bool):Option BG:=
 cond g (
 cond (decide (d.B=5)) (
 c a.Az (decide (b=2))) (
 c a.Az a.Ao)) (
 c a.Az a.Ao)
def Ho (N:Nat) (c:BL) (b:BG) (a:Int):Option BG:=
 cond (decide (a=0)) (
 GK N b true b.Ao) (
 cond (decide (a=1)) (
 GK N b false b.Ao) (
 cond (decide (a=2)) (
 Gv N c b a (GK N b) (decide (a=2))) (
 Gv N c b a (GK N b) (decide (a=3)))))
def Hs (N:Nat) (c:Int) (b:Int) (a:Int):Option Int:=
 cond (decide (c<b)) (
 some b) (
 cond (decide (a<c)) (
 some a) (
 some c))
def Kp (N:Nat) (a:BG) (b:Int):Option BG:=
 some ({ a with Z:=b}:BG)
def Ix (N:Nat) (c:BL) (b:BG) (a:Int):Option BG:=
 cond (decide (c.R≠0)) (
 (Hs N a 0 c.R).bind λd=>
 Kp N b d) (
 Kp N b b.Z)
def Gw (N:Nat) (b:Int) (a:Int):Option Int:=
 cond ((decide (a<0))&&(decide ((Bw (9223372036854775807+a))<b))) (
 some 9223372036854775807) (
 cond ((decide (0<a))&&(decide (b<(Bw ((-9223372036854775808)+a))))) (
 some (-9223372036854775808)) (
 some (Bw (b-a))))
def Hr (N:Nat) (b:BL) (a:BG):Option BG:=
 cond a.Az (
 some a) (
 (Gw N a.Z a.W).bind λc=>
 (Gw N 0 b.Ab).bind λd=>
 (Hs N c d b.Ab).bind λg=>
 (Gx N a.W g).bind λi=>
 some ({ a with W:=i}:BG))
def FA (N:Nat) (a:Int) (b:Int→(List BG)→Option (List BG)) (c:List BG):Option (List BG):=
 b (Bw (a+1)) c
def CS (N:Nat) (p0_w:AX) (g:(List BG)→Option (List BG)):Nat→Int→(List BG)→Option (List BG)
 |0,_,_=>none
 |m+1,d,c=>
 cond (decide (d<(↑p0_w.in_.At.length:Int))) (
 (ix p0_w.in_.At d).bind λa=>
 (Gj N a.Bb (↑p0_w.b.E.length:Int)).bind λi=>
 cond i (
 (ix p0_w.b.E a.Bb).bind λj=>
 (ix c a.Bb).bind λn=>
 (ix c a.Bb).bind λk=>
 (Ix N j k a.Z).bind λl=>
 (ix c a.Bb).bind λo=>
 (ix c a.Bb).bind λp=>
 FA N d (CS N p0_w g m) (upd c a.Bb l)) (
 FA N d (CS N p0_w g m) c)) (
 g c)
def C6 (N:Nat) (p0_w:AX):Nat→Int→(List BG)→Option (List BG)
 |0,_,_=>none
 |m+1,a,c=>
 cond (decide (a<(↑p0_w.b.E.length:Int))) (
 (ix p0_w.b.E a).bind λd=>
 (ix c a).bind λj=>
 (ix c a).bind λg=>
 (Hr N d g).bind λi=>
 (ix c a).bind λk=>
 (ix c a).bind λl=>
 C6 N p0_w m (Bw (a+1)) (upd c a i)) (
 some c)
def Cb (N:Nat) (p0_w:AX) (a:List BG):Option (List BG):=
 C6 N p0_w N 0 a
def Cc (N:Nat) (p0_w:AX) (a:List BG):Option (List BG):=
 CS N p0_w (Cb N p0_w) N 0 a
def FB (N:Nat) (c:Int) (a:Int→(List BG)→Option (List BG)) (b:List BG):Option (List BG):=
 a (Bw (c+1)) b
def CT (N:Nat) (p0_w:AX) (c:(List BG)→Option (List BG)):Nat→Int→(List BG)→Option (List BG)
 |0,_,_=>none
 |m+1,g,d=>
 cond (decide (g<(↑p0_w.in_.Ap.length:Int))) (
 (ix p0_w.in_.Ap g).bind λa=>
 (Gj N a.Bb (↑p0_w.b.E.length:Int)).bind λi=>
 cond i (
 (ix p0_w.b.E a.Bb).bind λj=>
 (ix d a.Bb).bind λn=>
 (ix d a.Bb).bind λk=>
 (Ho N j k a.B).bind λl=>
 (ix d a.Bb).bind λo=>
 (ix d a.Bb).bind λp=>
 FB N g (CT N p0_w c m) (upd d a.Bb l)) (
 FB N g (CT N p0_w c m) d)) (
 c d)
def E6 (N:Nat) (p0_w:AX):Option (List BG):=
 CT N p0_w (Cc N p0_w) N 0 p0_w.s.P
def J8 (N:Nat) (b:(List Int)) (a:Int):Option Int:=
 (cond ((decide (a<0))||(decide ((↑b.length:Int)≤a))) (some true) ((ix b a).bind λd=>
 some (decide (d<0)))).bind λg=>
 cond g (
 some 0) (
 (ix b a).bind λc=>
 some c)
def KQ (N:Nat) (a:List Int):Option (List Int):=
 some a
def Kz (N:Nat) (a:(List Int)) (b:Int) (c:Int) (d:Int):Option (List Int):=
 chk (Jk (↑a.length:Int) (↑a.length:Int) 8) <|
 (J8 N a b).bind λg=>
 cond ((((decide (0<(min d g)))&&(decide (0≤c)))&&(decide (c<(↑a.length:Int))))&&(decide (b≠c))) (
 (ix (Ns (List.replicate ((↑a.length:Int):Int).toNat (0:Int)) a) b).bind λl=>
 (ix (Ns (List.replicate ((↑a.length:Int):Int).toNat (0:Int)) a) b).bind λi=>
 (ix (Ns (List.replicate ((↑a.length:Int):Int).toNat (0:Int)) a) b).bind λm=>
 (ix (Ns (List.replicate ((↑a.length:Int):Int).toNat (0:Int)) a) b).bind λn=>
 (ix (upd (Ns (List.replicate ((↑a.length:Int):Int).toNat (0:Int)) a) b (Bw (i-(min d g)))) c).bind λo=>
 (ix (upd (Ns (List.replicate ((↑a.length:Int):Int).toNat (0:Int)) a) b (Bw (i-(min d g)))) c).bind λj=>
 (Gx N j (min d g)).bind λk=>
 (ix (upd (Ns (List.replicate ((↑a.length:Int):Int).toNat (0:Int)) a) b (Bw (i-(min d g)))) c).bind λp=>
 (ix (upd (Ns (List.replicate ((↑a.length:Int):Int).toNat (0:Int)) a) b (Bw (i-(min d g)))) c).bind λq=>
 KQ N (upd (upd (Ns (List.replicate ((↑a.length:Int):Int).toNat (0:Int)) a) b (Bw (i-(min d g)))) c k)) (
 KQ N (Ns (List.replicate ((↑a.length:Int):Int).toNat (0:Int)) a))
def GR (N:Nat) (c:Int) (a:Int→(List (List Int))→Option (List (List Int))) (b:List (List Int)):Option (List (List Int)):=
 a (Bw (c+1)) b
def C5 (N:Nat) (p0_w:AX):Nat→Int→(List (List Int))→Option (List (List Int))
 |0,_,_=>none
 |o+1,d,c=>
 cond (decide (d<(↑p0_w.in_.Ba.length:Int))) (
 (ix p0_w.in_.Ba d).bind λa=>
 (Gj N a.An (↑p0_w.b.A.length:Int)).bind λg=>
 (cond g ((Gj N a.G (↑p0_w.b.J.length:Int)).bind λi=>
 some i) (some false)).bind λj=>
 (cond j ((Gj N a.C (↑p0_w.b.J.length:Int)).bind λk=>
 some k) (some false)).bind λl=>
 cond l (
 (ix c a.An).bind λq=>
 (ix c a.An).bind λm=>
 (Kz N m a.G a.C a.Bd).bind λn=>
 (ix c a.An).bind λs=>
 (ix c a.An).bind λp=>
 GR N d (C5 N p0_w o) (upd c a.An n)) (
 GR N d (C5 N p0_w o) c)) (
 some c)
def Fo (N:Nat) (p0_w:AX):Option (List (List Int)):=
 C5 N p0_w N 0 p0_w.s.F
def EM (N:Nat) (p0_w:AX) (b:Int→Option ((List (List Int))×(List Int)×(List BB))):Nat→Int→Int→Option ((List (List Int))×(List Int)×(List BB))
 |0,_,_=>none
 |i+1,c,a=>
 cond (decide (a<(↑p0_w.s.M.length:Int))) (
 (ix p0_w.s.M a).bind λd=>
 (Ef N d.Ag).bind λg=>
 EM N p0_w b i (Bw (c+g)) (Bw (a+1))) (
 b c)
def Gn (N:Nat) (p0_w:AX) (k:Int) (l:Int) (d:Int) (i:List BB) (g:List (List Int)) (c:List Int) (m:Int→Int→(List BB)→(List (List Int))→(List Int)→Option ((List (List Int))×(List Int)×(List BB))) (a:Int):Option ((List (List Int))×(List Int)×(List BB)):=
 cond (decide (a≤0)) (
 m k l i g c) (
 (ix g d).bind λp=>
 (ix g d).bind λj=>
 (ix j 0).bind λn=>
 (ix j 0).bind λq=>
 (ix c 0).bind λt=>
 (ix c 0).bind λo=>
 (ix c 0).bind λu=>
 (ix c 0).bind λv=>
 chk (Jk (↑p0_w.b.J.length:Int) (↑p0_w.b.J.length:Int) 8) <|
 (ix (List.replicate ((↑p0_w.b.J.length:Int):Int).toNat (0:Int)) 0).bind λw=>
 (ix (List.replicate ((↑p0_w.b.J.length:Int):Int).toNat (0:Int)) 0).bind λx=>
 chk (room (i.length+([(⟨p0_w.s.D,(-1),d,(-4),(upd (List.replicate ((↑p0_w.b.J.length:Int):Int).toNat (0:Int)) 0 a)⟩:BB)]:List BB).length) 56) <|
 m (Bw (k+a)) (Bw (l+a)) (i++([(⟨p0_w.s.D,(-1),d,(-4),(upd (List.replicate ((↑p0_w.b.J.length:Int):Int).toNat (0:Int)) 0 a)⟩:BB)]:List BB)) (upd g d (upd j 0 (Bw (n+a)))) (upd c 0 (Bw (o+a))))
def Fi (N:Nat) (a:Int) (j:Int→Int→Int→(List BB)→(List (List Int))→(List Int)→Option ((List (List Int))×(List Int)×(List BB))) (b:Int) (c:Int) (d:List BB) (g:List (List Int)) (i:List Int):Option ((List (List Int))×(List Int)×(List BB)):=
 j b c (Bw (a+1)) d g i
def DF (N:Nat) (p0_w:AX):Nat→Int→Int→Int→(List BB)→(List (List Int))→(List Int)→Option ((List (List Int))×(List Int)×(List BB))
 |0,_,_,_,_,_,_=>none
 |l+1,c,d,a,g,i,j=>
 cond (decide (a<(↑p0_w.b.A.length:Int))) (
 cond (decide (a<(↑p0_w.in_.X.length:Int))) (
 (ix p0_w.in_.X a).bind λk=>
 Gn N p0_w c d a g i j (Fi N a (DF N p0_w l)) (min (min k (Bw (1125899906842624-c))) (Bw (1152921504606846976-d)))) (
 Gn N p0_w c d a g i j (Fi N a (DF N p0_w l)) 0)) (
 some (i,j,g))
def EO (N:Nat) (p0_w:AX) (a:Int):Option ((List (List Int))×(List Int)×(List BB)):=
 (Ef N p0_w.s.S).bind λb=>
 DF N p0_w N a b 0 p0_w.moves p0_w.s.F p0_w.s.S
def EQ (N:Nat) (p0_w:AX) (a:Int):Option ((List (List Int))×(List Int)×(List BB)):=
 EM N p0_w (EO N p0_w) N a 0
def EN (N:Nat) (p0_w:AX) (b:Int→Option ((List (List Int))×(List Int)×(List BB))):Nat→Int→Int→Option ((List (List Int))×(List Int)×(List BB))
 |0,_,_=>none
 |i+1,g,a=>
 cond (decide (a<(↑p0_w.s.F.length:Int))) (
 (ix p0_w.s.F a).bind λj=>
 (ix p0_w.s.F a).bind λc=>
 (Ef N c).bind λd=>
 EN N p0_w b i (Bw (g+d)) (Bw (a+1))) (
 b g)
def Ii (N:Nat) (p0_w:AX):Option ((List (List Int))×(List Int)×(List BB)):=
 EN N p0_w (EQ N p0_w) N 0 0
def Hq (N:Nat) (a:List Int):Option (List Int):=
 some a
def F9 (N:Nat) (c:(List Int)) (d:(List Int)→Option (List Int)):Nat→Int→(List Int)→Option (List Int)
 |0,_,_=>none
 |k+1,a,b=>
 cond (decide (a<(↑c.length:Int))) (
 (ix c a).bind λg=>
 (ix b a).bind λl=>
 (ix b a).bind λi=>
 (Gx N i g).bind λj=>
 (ix b a).bind λm=>
 (ix b a).bind λn=>
 F9 N c d k (Bw (a+1)) (upd b a j)) (
 d b)
def G2 (N:Nat) (a:(List Int)) (b:(List Int)):Option (List Int):=
 chk (Jk (max (↑a.length:Int) (↑b.length:Int)) (max (↑a.length:Int) (↑b.length:Int)) 8) <|
 F9 N b (Hq N) N 0 (Ns (List.replicate ((max (↑a.length:Int) (↑b.length:Int)):Int).toNat (0:Int)) a)
def JO (N:Nat) (a:Int) (b:(List BD)→Int→(List (List Int))→Option ((List (List Int))×(List BD))) (c:List BD) (d:List (List Int)):Option ((List (List Int))×(List BD)):=
 b c (Bw (a+1)) d
def F8 (N:Nat) (d:(List BD)) (b:Int) (n:Int) (k:(List BD)→(List (List Int))→Option ((List (List Int))×(List BD))):Nat→(List BD)→Int→(List (List Int))→Option ((List (List Int))×(List BD))
 |0,_,_,_=>none
 |o+1,g,i,c=>
 cond (decide (i<(↑d.length:Int))) (
 (ix d i).bind λa=>
 cond (((decide (a.Ak≤b))&&(decide (0≤a.C)))&&(decide (a.C<n))) (
 (ix c a.C).bind λp=>
 (ix c a.C).bind λl=>
 (G2 N l a.Ag).bind λm=>
 (ix c a.C).bind λq=>
 (ix c a.C).bind λs=>
 JO N i (F8 N d b n k o) g (upd c a.C m)) (
 (DC N a.Ag).bind λj=>
 chk (room (g.length+([({ a with Ag:=j}:BD)]:List BD).length) 40) <|
 JO N i (F8 N d b n k o) (g++([({ a with Ag:=j}:BD)]:List BD)) c)) (
 k g c)
def H4 (N:Nat) (a:List BD) (b:List (List Int)):Option ((List (List Int))×(List BD)):=
 some (b,a)
def Gl (N:Nat) (b:(List BD)) (a:Int) (d:Int) (c:List (List Int)):Option ((List (List Int))×(List BD)):=
 F8 N b a d (H4 N) N ([]:List BD) 0 c
def Gk (N:Nat) (g:Int) (d:Int) (c:(List (List Int))→Option ((List (List Int))×(List BD))):Nat→Int→(List (List Int))→Option ((List (List Int))×(List BD))
 |0,_,_=>none
 |i+1,a,b=>
 cond (decide (a<(↑(List.replicate (g:Int).toNat ([]:(List Int))).length:Int))) (
 chk (Jk d d 8) <|
 (ix b a).bind λj=>
 (ix b a).bind λk=>
 Gk N g d c i (Bw (a+1)) (upd b a (List.replicate (d:Int).toNat (0:Int)))) (
 c b)
def Kx (N:Nat) (d:(List BD)) (c:Int) (a:Int) (b:Int):Option ((List (List Int))×(List BD)):=
 (Hs N a 0 64).bind λg=>
 (Hs N b 0 16).bind λi=>
 chk (Jk g g 24) <|
 Gk N g i (Gl N d c g) N 0 (List.replicate (g:Int).toNat ([]:(List Int)))
def Il (N:Nat) (a:BG) (b:Bool):Option BG:=
 some ({ a with Ao:=b}:BG)
def HB (N:Nat) (b:BL) (a:BG) (c:Int):Option BG:=
 cond (decide (b.B≠3)) (
 some a) (
 cond (decide (b.Ah≤c)) (
 Il N a true) (
 cond (decide (c≤b.Ai)) (
 Il N a false) (
 Il N a a.Ao)))
def Du (N:Nat) (a:Int) (c:Int→(List BG)→Option ((List (List Int))×(List BD)×(List BG)×(List Int))) (b:List BG):Option ((List (List Int))×(List BD)×(List BG)×(List Int)):=
 c (Bw (a+1)) b
def B3 (N:Nat) (p0_w:AX) (j:(List (List Int))×(List BD)) (i:List (List Int)) (d:List Int):Nat→Int→(List BG)→Option ((List (List Int))×(List BD)×(List BG)×(List Int))
 |0,_,_=>none
 |n+1,a,c=>
 cond (decide (a<(↑p0_w.b.E.length:Int))) (
 (ix p0_w.b.E a).bind λg=>
 cond (decide (g.B=3)) (
 (ix c a).bind λo=>
 (ix c a).bind λk=>
 (ix d g.G).bind λp=>
 (ix d g.G).bind λl=>
 (HB N g k l).bind λm=>
 (ix c a).bind λq=>
 (ix c a).bind λs=>
 Du N a (B3 N p0_w j i d n) (upd c a m)) (
 Du N a (B3 N p0_w j i d n) c)) (
 some (i,j.2,c,d))
def C7 (N:Nat) (p0_w:AX) (c:(List (List Int))×(List BD)) (a:List (List Int)) (b:List Int):Option ((List (List Int))×(List BD)×(List BG)×(List Int)):=
 B3 N p0_w c a b N 0 p0_w.s.P
def CZ (N:Nat) (p0_w:AX) (i:(List (List Int))×(List BD)) (j:(List (List Int))→(List Int)→Option ((List (List Int))×(List BD)×(List BG)×(List Int))):Nat→Int→(List (List Int))→(List Int)→Option ((List (List Int))×(List BD)×(List BG)×(List Int))
 |0,_,_,_=>none
 |w+1,a,c,d=>
 cond (decide (a<(↑p0_w.b.A.length:Int))) (
 (ix c a).bind λo=>
 (ix c a).bind λk=>
 (ix i.1 a).bind λp=>
 (ix i.1 a).bind λl=>
 (G2 N k l).bind λg=>
 (ix c a).bind λq=>
 (ix c a).bind λs=>
 (ix (upd c a g) a).bind λt=>
 (ix (upd c a g) a).bind λm=>
 (Ef N m).bind λn=>
 (ix d a).bind λu=>
 (ix d a).bind λv=>
 CZ N p0_w i j w (Bw (a+1)) (upd c a g) (upd d a n)) (
 j c d)
def DR (N:Nat) (p0_w:AX):Option ((List (List Int))×(List BD)×(List BG)×(List Int)):=
 (Kx N p0_w.s.M p0_w.s.D (↑p0_w.b.A.length:Int) (↑p0_w.b.J.length:Int)).bind λa=>
 CZ N p0_w a (C7 N p0_w a) N 0 p0_w.s.F p0_w.peaks
def HU (N:Nat) (a:List Int):Option (List Int):=
 some a
def Fs (N:Nat) (a:(List Int)) (d:(List Int)→Option (List Int)):Nat→Int→(List Int)→Option (List Int)
 |0,_,_=>none
 |j+1,b,c=>
 cond (decide (b<(↑a.length:Int))) (
 (ix a b).bind λg=>
 (ix c b).bind λk=>
 (ix c b).bind λi=>
 (ix c b).bind λl=>
 (ix c b).bind λm=>
 Fs N a d j (Bw (b+1)) (upd c b (Bw (i-g)))) (
 d c)
def H5 (N:Nat) (a:(List Int)) (b:(List Int)):Option (List Int):=
 chk (Jk (↑a.length:Int) (↑a.length:Int) 8) <|
 Fs N b (HU N) N 0 (Ns (List.replicate ((↑a.length:Int):Int).toNat (0:Int)) a)
def Im (N:Nat) (a:(List Int)) (b:List Int):Option ((List Int)×(List Int)):=
 (H5 N a b).bind λc=>
 some (b,c)
def K0 (N:Nat) (b:(List Int)) (a:Int) (c:Int):Option ((List Int)×(List Int)):=
 chk (Jk (↑b.length:Int) (↑b.length:Int) 8) <|
 (J8 N b a).bind λd=>
 cond (decide (0<(min c d))) (
 (ix (List.replicate ((↑b.length:Int):Int).toNat (0:Int)) a).bind λg=>
 (ix (List.replicate ((↑b.length:Int):Int).toNat (0:Int)) a).bind λi=>
 Im N b (upd (List.replicate ((↑b.length:Int):Int).toNat (0:Int)) a (min c d))) (
 Im N b (List.replicate ((↑b.length:Int):Int).toNat (0:Int)))
def Dz (N:Nat) (c1_:G9) (a:(List Int)):Option ((List Int)×(List Int)):=
 (K0 N a c1_.Bi c1_.Bd).bind λb=>
 some (b.1,b.2)
def DQ (N:Nat) (a:List AK):Option (List AK):=
 some a
def GQ (N:Nat) (a:Int) (b:(List AK)→Int→Option (List AK)) (c:List AK):Option (List AK):=
 b c (Bw (a+1))
def CR (N:Nat) (p0_w:AX) (a:Int) (g:(List AK)→Option (List AK)):Nat→(List AK)→Int→Option (List AK)
 |0,_,_=>none
 |j+1,i,d=>
 cond (decide (d<(↑p0_w.in_.Ad.length:Int))) (
 (ix p0_w.in_.Ad d).bind λc=>
 (cond (decide (c.An≠a)) (some true) ((Gj N c.Bi (↑p0_w.b.J.length:Int)).bind λk=>
 some (!k))).bind λl=>
 cond (l||(decide (c.Bd≤0))) (
 GQ N d (CR N p0_w a g j) i) (
 (cond (decide (c.C≠(-1))) ((Gj N c.C (↑p0_w.b.A.length:Int)).bind λm=>
 (cond (!m) (some true) ((ix p0_w.b.A c.C).bind λn=>
 (ix p0_w.b.A a).bind λo=>
 some (decide (n.As≠o.As)))).bind λp=>
 some p) (some false)).bind λq=>
 cond q (
 GQ N d (CR N p0_w a g j) i) (
 chk (room (i.length+1) 32) <|
 GQ N d (CR N p0_w a g j) (i++([(⟨c.C,0,(-3),(λx=>Dz N c x)⟩:AK)]:List AK))))) (
 g i)
def HS (N:Nat) (p0_w:AX) (a:Int):Option (List AK):=
 CR N p0_w a (DQ N) N ([]:List AK) 0
def Gu (N:Nat) (c:Int) (a:Int) (b:Int):Option Int:=
 (GA N c a b).bind λd=>
 cond (!d.2.2) (
 some 0) (
 some d.1)
def JQ (N:Nat) (b:BL) (a:Int) (c:Int):Option Int:=
 cond (decide (b.C=(-1))) (
 some a) (
 (Gu N c b.Ac b.Aa).bind λd=>
 (Gw N a d).bind λg=>
 some (max 0 g))
def J9 (N:Nat) (a:(List BS)) (b:Int):Option Int:=
 (Eu N a).bind λc=>
 cond (!c) (
 some 0) (
 (HC N a b).bind λd=>
 some d.1)
def In (N:Nat):Option Int:=
 some 0
def HJ (N:Nat) (a:BL) (b:Int):Option Int:=
 (Gw N b a.Al).bind λd=>
 (Gu N (max 0 d) a.L a.I).bind λc=>
 some c
def JT (N:Nat) (a:Bool) (b:Option Int):Option Int:=
 cond (!a) (
 some 0) (
 b)
def KR (N:Nat) (c:BL) (a:Bool) (b:Int) (d:Option Int):Option Int:=
 cond a (
 (Gu N b c.L c.I).bind λg=>
 some g) (
 d)
def JS (N:Nat) (b:BL) (a:Int):Option Int:=
 (Gu N b.L a b.R).bind λc=>
 some c
def JR (N:Nat) (a:BL) (c:Int) (g:(List BS)) (b:Int) (d:Int):Option Int:=
 (JQ N a b d).bind λi=>
 (J9 N g i).bind λj=>
 (Gu N j c a.R).bind λk=>
 (Gx N k a.Aj).bind λl=>
 some l
def Iu (N:Nat) (a:BL) (d:Int) (c:Bool) (i:(List BS)) (b:Int) (g:Int):Option Int:=
 cond (decide (a.B=0)) (
 JR N a d i b g) (
 cond (decide (a.B=2)) (
 JS N a d) (
 cond (decide (a.B=3)) (
 KR N a c b (In N)) (
 cond (decide (a.B=5)) (
 JT N c (HJ N a b)) (
 cond (decide (a.B=1)) (
 HJ N a b) (
 In N)))))
def Iw (N:Nat) (b:BL) (c:BG) (a:Int) (d:Int):Option Int:=
 (Iu N b c.W c.Ao b.Af a d).bind λg=>
 some g
def FM (N:Nat) (a:Int):Option Int:=
 some a
def FW (N:Nat) (c:Int) (a:(List Int)) (n:Int) (k:Int→(List Int)→(List Int)→(List Int)→Option ((List Int)×Bool)):Nat→Int→Int→(List Int)→(List Int)→(List Int)→Option ((List Int)×Bool)
 |0,_,_,_,_,_=>none
 |v+1,l,b,g,i,j=>
 cond (decide (b<(↑a.length:Int))) (
 (ix a b).bind λm=>
 (GA N c m n).bind λd=>
 (ix j b).bind λo=>
 (ix j b).bind λp=>
 (ix i b).bind λq=>
 (ix i b).bind λs=>
 (ix g b).bind λt=>
 (ix g b).bind λu=>
 FW N c a n k v (Bw (l-d.1)) (Bw (b+1)) (upd g b b) (upd i b d.2.1) (upd j b d.1)) (
 k l g i j)
def FV (N:Nat) (c:List Int) (g:(List Int)→Option ((List Int)×Bool)):Nat→Int→(List Int)→Option ((List Int)×Bool)
 |0,_,_=>none
 |m+1,d,a=>
 cond (decide (d<(↑c.length:Int))) (
 (ix c d).bind λb=>
 (ix a b).bind λj=>
 (ix a b).bind λi=>
 (ix a b).bind λk=>
 (ix a b).bind λl=>
 FV N c g m (Bw (d+1)) (upd a b (Bw (i+1)))) (
 g a)
def G3 (N:Nat) (a:List Int):Option ((List Int)×Bool):=
 some (a,true)
def FY (N:Nat) (c:Int) (d:List Int) (g:List Int) (i:List Int):Option ((List Int)×Bool):=
 (Qj d g).bind λa=>
 (oI a c).bind λb=>
 FV N b (G3 N) N 0 i
def FZ (N:Nat) (b:Int) (a:(List Int)) (c:Int):Option ((List Int)×Bool):=
 cond ((decide (b<0))||(decide (c<b))) (
 some (([]:List Int),false)) (
 chk (Jk (↑a.length:Int) (↑a.length:Int) 8) <|
 cond (decide (c=0)) (
 some ((List.replicate ((↑a.length:Int):Int).toNat (0:Int)),true)) (
 chk (Jk (↑a.length:Int) (↑a.length:Int) 8) <|
 chk (Jk (↑a.length:Int) (↑a.length:Int) 8) <|
 FW N b a c (FY N) N b 0 (List.replicate ((↑a.length:Int):Int).toNat (0:Int)) (List.replicate ((↑a.length:Int):Int).toNat (0:Int)) (List.replicate ((↑a.length:Int):Int).toNat (0:Int))))
def FX (N:Nat) (a:(List Int)) (g:Int→Option ((List Int)×Bool)):Nat→Int→Int→Option ((List Int)×Bool)
 |0,_,_=>none
 |i+1,b,c=>
 cond (decide (c<(↑a.length:Int))) (
 (ix a c).bind λd=>
 cond ((decide (d<0))||(decide ((Bw (1125899906842624-b))<d))) (
 some (([]:List Int),false)) (
 FX N a g i (Bw (b+d)) (Bw (c+1)))) (
 g b)
def Jr (N:Nat) (b:Int) (a:(List Int)):Option ((List Int)×Bool):=
 cond (decide (64<(↑a.length:Int))) (
 some (([]:List Int),false)) (
 FX N a (FZ N b a) N 0 0)
def HI (N:Nat) (a:(List Int)) (b:List Int):Option ((List Int)×(List Int)):=
 (H5 N a b).bind λc=>
 some (b,c)
def JP (N:Nat) (a:(List Int)→Option ((List Int)×(List Int))) (b:List Int):Option ((List Int)×(List Int)):=
 a b
def Ky (N:Nat) (a:(List Int)) (b:Int):Option ((List Int)×(List Int)):=
 chk (Jk (↑a.length:Int) (↑a.length:Int) 8) <|
 (cond ((decide (0<b))&&(decide ((↑a.length:Int)≤64))) ((IR N a).bind λd=>
 some d) (some false)).bind λg=>
 cond g (
 (Ef N a).bind λi=>
 (Jr N (min b i) a).bind λc=>
 cond c.2 (
 JP N (HI N a) (Ns (List.replicate ((↑a.length:Int):Int).toNat (0:Int)) c.1)) (
 JP N (HI N a) (List.replicate ((↑a.length:Int):Int).toNat (0:Int)))) (
 HI N a (List.replicate ((↑a.length:Int):Int).toNat (0:Int)))
def A3 (N:Nat) (c1_:Int) (a:(List Int)):Option ((List Int)×(List Int)):=
 (Ky N a c1_).bind λb=>
 some (b.1,b.2)
def It (N:Nat) (c:Int) (a:Int) (b:Int):Option Int:=
 (GA N c a b).bind λd=>
 cond (!d.2.2) (
 some 0) (
 some d.1)
def IX (N:Nat) (a:BL) (b:Int) (c:Int):Option Int:=
 cond (decide (a.B≠4)) (
 some 0) (
 (It N b a.L a.I).bind λd=>
 (It N c a.Ac a.Aa).bind λg=>
 some (Bw (d-g)))
def DJ (N:Nat) (a:List AK):Option (List AK):=
 some a
def GS (N:Nat) (p0_w:AX) (c:Int) (m:List AK) (b:Int) (a:BL) (g:(List AK)→Option (List AK)) (i:Int):Option (List AK):=
 (ix p0_w.s.P b).bind λn=>
 (ix p0_w.s.P b).bind λj=>
 (ix p0_w.peaks c).bind λo=>
 (ix p0_w.peaks c).bind λk=>
 (Iw N a j k i).bind λl=>
 (FM N l).bind λd=>
 chk (room (m.length+([(⟨a.C,a.N,b,(λx=>A3 N d x)⟩:AK)]:List AK).length) 32) <|
 g (m++([(⟨a.C,a.N,b,(λx=>A3 N d x)⟩:AK)]:List AK))
def Dg (N:Nat) (a:Int) (b:(List AK)→Int→Option (List AK)) (c:List AK):Option (List AK):=
 b c (Bw (a+1))
def CB (N:Nat) (p0_w:AX) (c:Int) (g:(List AK)→Option (List AK)):Nat→(List AK)→Int→Option (List AK)
 |0,_,_=>none
 |l+1,i,d=>
 cond (decide (d<(↑p0_w.b.E.length:Int))) (
 (ix p0_w.b.E d).bind λa=>
 cond ((decide (a.G=c))&&(decide (a.B≠4))) (
 cond (decide (a.C≠(-1))) (
 (ix p0_w.peaks a.C).bind λA=>
 (ix p0_w.peaks a.C).bind λu=>
 GS N p0_w c i d a (Dg N d (CB N p0_w c g l)) u) (
 GS N p0_w c i d a (Dg N d (CB N p0_w c g l)) 0)) (
 cond (decide (a.G=c)) (
 (ix p0_w.peaks c).bind λv=>
 (ix p0_w.peaks c).bind λm=>
 (ix p0_w.peaks a.C).bind λw=>
 (ix p0_w.peaks a.C).bind λn=>
 (IX N a m n).bind λo=>
 (FM N o).bind λj=>
 chk (room (i.length+([(⟨a.C,a.N,d,(λx=>A3 N j x)⟩:AK)]:List AK).length) 32) <|
 Dg N d (CB N p0_w c g l) (i++([(⟨a.C,a.N,d,(λx=>A3 N j x)⟩:AK)]:List AK))) (
 cond ((decide (a.C=c))&&(decide (a.B=4))) (
 (ix p0_w.peaks a.G).bind λy=>
 (ix p0_w.peaks a.G).bind λp=>
 (ix p0_w.peaks c).bind λz=>
 (ix p0_w.peaks c).bind λq=>
 (IX N a p q).bind λs=>
 (Gw N 0 s).bind λt=>
 (FM N t).bind λk=>
 chk (room (i.length+([(⟨a.G,a.N,d,(λx=>A3 N k x)⟩:AK)]:List AK).length) 32) <|
 Dg N d (CB N p0_w c g l) (i++([(⟨a.G,a.N,d,(λx=>A3 N k x)⟩:AK)]:List AK))) (
 Dg N d (CB N p0_w c g l) i)))) (
 g i)
def HT (N:Nat) (p0_w:AX) (a:Int):Option (List AK):=
 CB N p0_w a (DJ N) N ([]:List AK) 0
def Ce (N:Nat) (a:List AK):Option (List AK):=
 some a
def Cu (N:Nat) (a:Int):Option (List AK):=
 cond (decide (a<0)) (
 none) (
 cond (decide (0<(Bw (a-(Bw (0-0)))))) (
 chk (decide (0<(Bw (a-(Bw (0-0)))))) <|
 chk (room ((Bw (a-(Bw (0-0)))):Int).toNat 32) <|
 Ce N ([]:List AK)) (
 Ce N ([]:List AK)))
def CD (N:Nat) (a:(List (List AK))) (d:(List AK)→Option (List AK)):Nat→(List AK)→Int→Option (List AK)
 |0,_,_=>none
 |i+1,b,c=>
 cond (decide (c<(↑a.length:Int))) (
 (ix a c).bind λg=>
 chk (room (b.length+g.length) 32) <|
 CD N a d i (b++g) (Bw (c+1))) (
 d b)
def C8 (N:Nat) (a:List AK):Option (List AK):=
 some a
def CW (N:Nat) (a:(List (List AK))) (c:Int):Option (List AK):=
 (Cu N c).bind λb=>
 CD N a (C8 N) N b 0
def CE (N:Nat) (a:(List (List AK))) (c:Int→Option (List AK)):Nat→Int→Int→Option (List AK)
 |0,_,_=>none
 |i+1,g,b=>
 cond (decide (b<(↑a.length:Int))) (
 (ix a b).bind λd=>
 cond (decide ((Bw (g+(↑d.length:Int)))<0)) (
 none) (
 CE N a c i (Bw (g+(↑d.length:Int))) (Bw (b+1)))) (
 c g)
def Ci (N:Nat) (a:(List (List AK))):Option (List AK):=
 CE N a (CW N a) N 0 0
def EW (N:Nat):Option Int:=
 some (-1)
def DU (N:Nat) (a:(List Int)) (b:(Int→Option Bool)) (c:Option Int):Nat→Int→Option Int
 |0,_=>none
 |j+1,d=>
 cond (decide (d<(↑a.length:Int))) (
 (ix a d).bind λg=>
 (b g).bind λi=>
 cond i (
 some d) (
 DU N a b c j (Bw (d+1)))) (
 c)
def FC (N:Nat) (a:(List Int)) (b:(Int→Option Bool)):Option Int:=
 DU N a b (EW N) N 0
def Fq (N:Nat) (a:(List Int)) (b:(Int→Option Bool)):Option Bool:=
 (FC N a b).bind λc=>
 some (decide (0≤c))
def H3 (N:Nat) (a:Int):Option Bool:=
 some (decide (0<a))
def KP (N:Nat) (c:Int) (b:Int) (a:(List Int)):Option (List BD):=
 (cond (decide (b<0)) (some true) ((Fq N a (λx=>H3 N x)).bind λg=>
 some (!g))).bind λi=>
 cond i (
 some ([]:List BD)) (
 (DC N a).bind λd=>
 chk (room (([]:List BD).length+1) 40) <|
 some (([]:List BD)++([(⟨c,b,d⟩:BD)]:List BD)))
def ER (N:Nat) (p0_w:AX) (a:Int) (b:AK):Option ((List (List Int))×(List Int)×(List BB)×(List BD)):=
 (ix p0_w.s.F a).bind λm=>
 (ix p0_w.s.F a).bind λj=>
 (b.take j).bind λc=>
 (ix p0_w.s.F a).bind λk=>
 (ix p0_w.s.F a).bind λl=>
 (Ef N c.1).bind λg=>
 cond (decide (g≤0)) (
 some ((upd p0_w.s.F a c.2),p0_w.s.U,p0_w.moves,p0_w.sent)) (
 chk (room (p0_w.moves.length+([(⟨p0_w.s.D,a,b.to_,b.way,c.1⟩:BB)]:List BB).length) 56) <|
 cond (decide (b.to_=(-1))) (
 (G2 N p0_w.s.U c.1).bind λi=>
 some ((upd p0_w.s.F a c.2),i,(p0_w.moves++([(⟨p0_w.s.D,a,b.to_,b.way,c.1⟩:BB)]:List BB)),p0_w.sent)) (
 (KP N (Bw ((Bw (p0_w.s.D+1))+b.delay)) b.to_ c.1).bind λd=>
 chk (room (p0_w.sent.length+d.length) 40) <|
 some ((upd p0_w.s.F a c.2),p0_w.s.U,(p0_w.moves++([(⟨p0_w.s.D,a,b.to_,b.way,c.1⟩:BB)]:List BB)),(p0_w.sent++d))))
def FU (N:Nat) (a:Dm) (b:Int×Int×Bool) (c:Int):Option (Int×Int):=
 cond (decide ((Bw (b.2.1+c))<a.I)) (
 some (b.1,(Bw (b.2.1+c)))) (
 some ((Bw (b.1+1)),(Bw ((Bw (b.2.1+c))-a.I))))
def Gg (N:Nat) (a:Dm) (d:Int) (b:Int):Option (Int×Int):=
 (GA N d a.L a.I).bind λc=>
 cond (!c.2.2) (
 some (0,0)) (
 cond ((decide (0≤b))&&(decide (b<a.I))) (
 FU N a c b) (
 FU N a c 0))
def DI (N:Nat) (p0_w:AX) (d:Int) (o:Dm) (g:List (List Int)) (i:List Int) (j:List BB) (k:List BD) (l:Int×Int) (n:(List (List Int))→(List Int)→(List BB)→(List BD)→(List Int)→Option ((List (List Int))×(List Int)×(List Int)×(List BB)×(List BD))) (c:List Int):Option ((List (List Int))×(List Int)×(List Int)×(List BB)×(List BD)):=
 (FM N l.1).bind λm=>
 (ER N (⟨p0_w.b,p0_w.in_,(⟨p0_w.s.D,g,c,p0_w.s.M,p0_w.s.P,p0_w.s.S,i⟩:A7),j,p0_w.peaks,k⟩:AX) d (⟨o.Aq,o.N,(-1),(λx=>A3 N m x)⟩:AK)).bind λa=>
 n a.1 a.2.1 a.2.2.1 a.2.2.2 c
def CF (N:Nat) (p0_w:AX) (d:Int) (o:Dm) (a:List (List Int)) (i:List Int) (j:List BB) (k:List BD) (g:List Int):Option ((List (List Int))×(List Int)×(List Int)×(List BB)×(List BD)):=
 (ix a d).bind λp=>
 (ix a d).bind λm=>
 (Ef N m).bind λl=>
 cond (decide (0<(Bw (l-o.Ae)))) (
 (FM N (Bw (l-o.Ae))).bind λn=>
 (ER N (⟨p0_w.b,p0_w.in_,(⟨p0_w.s.D,a,g,p0_w.s.M,p0_w.s.P,p0_w.s.S,i⟩:A7),j,p0_w.peaks,k⟩:AX) d (⟨o.Aq,o.N,(-2),(λx=>A3 N n x)⟩:AK)).bind λc=>
 some (c.1,g,c.2.1,c.2.2.1,c.2.2.2)) (
 some (a,g,i,j,k))
def D5 (N:Nat) (p0_w:AX) (a:Int) (j:Dm) (b:List (List Int)) (d:List Int) (g:List BB) (i:List BD):Option ((List (List Int))×(List Int)×(List Int)×(List BB)×(List BD)):=
 cond (decide (j.I≠0)) (
 (ix p0_w.peaks a).bind λo=>
 (ix p0_w.peaks a).bind λk=>
 (ix p0_w.s.O a).bind λp=>
 (ix p0_w.s.O a).bind λl=>
 (Gg N j k l).bind λc=>
 (ix p0_w.s.O a).bind λq=>
 (ix p0_w.s.O a).bind λt=>
 (ix b a).bind λu=>
 (ix b a).bind λm=>
 (Ef N m).bind λn=>
 cond (decide (c.1≤n)) (
 (ix (upd p0_w.s.O a 0) a).bind λv=>
 (ix (upd p0_w.s.O a 0) a).bind λw=>
 DI N p0_w a j b d g i c (CF N p0_w a j) (upd (upd p0_w.s.O a 0) a c.2)) (
 DI N p0_w a j b d g i c (CF N p0_w a j) (upd p0_w.s.O a 0))) (
 CF N p0_w a j b d g i p0_w.s.O)
def Cd (N:Nat) (p0_w:AX) (g:Int) (d:(List AK)) (m:(List (List Int))→(List Int)→(List BB)→(List BD)→Option ((List (List Int))×(List Int)×(List Int)×(List BB)×(List BD))):Nat→Int→(List (List Int))→(List Int)→(List BB)→(List BD)→Option ((List (List Int))×(List Int)×(List Int)×(List BB)×(List BD))
 |0,_,_,_,_,_=>none
 |p+1,a,i,j,k,l=>
 cond (decide (a<(↑d.length:Int))) (
 (ix d a).bind λo=>
 (ix d a).bind λn=>
 (ER N (⟨p0_w.b,p0_w.in_,(⟨p0_w.s.D,i,p0_w.s.O,p0_w.s.M,p0_w.s.P,p0_w.s.S,j⟩:A7),k,p0_w.peaks,l⟩:AX) g n).bind λc=>
 Cd N p0_w g d m p (Bw (a+1)) c.1 c.2.1 c.2.2.1 c.2.2.2) (
 m i j k l)
def D6 (N:Nat) (p0_w:AX) (a:Int):Option ((List (List Int))×(List Int)×(List Int)×(List BB)×(List BD)):=
 (ix p0_w.b.A a).bind λi=>
 (HS N p0_w a).bind λc=>
 (HT N p0_w a).bind λd=>
 (Ci N ([c,d]:List (List AK))).bind λg=>
 Cd N p0_w a g (D5 N p0_w a i) N 0 p0_w.s.F p0_w.s.U p0_w.moves p0_w.sent
def DT (N:Nat) (k:A7) (c:(List (List Int))×(List Int)×(List BB)) (a:(List (List Int))×(List BD)×(List BG)×(List Int)) (d:List (List Int)) (g:List Int) (i:List Int) (j:List BB) (b:List BD):Option (A7×(List BB)×(List Int)):=
 chk (room (a.2.1.length+b.length) 40) <|
 some ((⟨(Bw (k.D+1)),d,g,(a.2.1++b),a.2.2.1,c.2.1,i⟩:A7),j,a.2.2.2)
def DM (N:Nat) (c:AU) (d:DO) (o:A7) (i:(List (List Int))×(List Int)×(List BB)) (b:(List (List Int))×(List BD)×(List BG)×(List Int)) (p:(List (List Int))→(List Int)→(List Int)→(List BB)→(List BD)→Option (A7×(List BB)×(List Int))):Nat→Int→(List (List Int))→(List Int)→(List Int)→(List BB)→(List BD)→Option (A7×(List BB)×(List Int))
 |0,_,_,_,_,_,_=>none
 |q+1,g,j,k,l,m,n=>
 cond (decide (g<(↑c.A.length:Int))) (
 (D6 N (⟨c,d,(⟨o.D,j,k,b.2.1,b.2.2.1,i.2.1,l⟩:A7),m,b.2.2.2,n⟩:AX) g).bind λa=>
 DM N c d o i b p q (Bw (g+1)) a.1 a.2.1 a.2.2.1 a.2.2.2.1 a.2.2.2.2) (
 p j k l m n)
def Gr (N:Nat) (a:AU) (j:A7) (c:DO):Option (A7×(List BB)×(List Int)):=
 (Jq N j).bind λb=>
 chk (Jk (↑a.A.length:Int) (↑a.A.length:Int) 8) <|
 (E6 N (⟨a,c,b,([]:List BB),(List.replicate ((↑a.A.length:Int):Int).toNat (0:Int)),([]:List BD)⟩:AX)).bind λg=>
 (Fo N (⟨a,c,({ b with P:=g}:A7),([]:List BB),(List.replicate ((↑a.A.length:Int):Int).toNat (0:Int)),([]:List BD)⟩:AX)).bind λk=>
 (Ii N (⟨a,c,(⟨b.D,k,b.O,b.M,g,b.S,b.U⟩:A7),([]:List BB),(List.replicate ((↑a.A.length:Int):Int).toNat (0:Int)),([]:List BD)⟩:AX)).bind λd=>
 (DR N (⟨a,c,(⟨b.D,d.1,b.O,b.M,g,d.2.1,b.U⟩:A7),d.2.2,(List.replicate ((↑a.A.length:Int):Int).toNat (0:Int)),([]:List BD)⟩:AX)).bind λi=>
 DM N a c b d i (DT N b d i) N 0 i.1 b.O b.U d.2.2 ([]:List BD)
def IC (N:Nat):Option Bool:=
 some true
def G1 (N:Nat) (a:(List Int)) (b:(List Int)) (c:Option Bool):Nat→Int→Option Bool
 |0,_=>none
 |j+1,d=>
 cond (decide (d<(↑a.length:Int))) (
 (ix a d).bind λg=>
 (ix b d).bind λi=>
 cond (decide (g≠i)) (
 some false) (
 G1 N a b c j (Bw (d+1)))) (
 c)
def Dk (N:Nat) (a:(List Int)) (b:(List Int)):Option Bool:=
 cond (decide ((↑a.length:Int)≠(↑b.length:Int))) (
 some false) (
 G1 N a b (IC N) N 0)
def Fp (N:Nat) (a:(List Int)) (c1_:(List Int)):Nat→Int→(List Int)→Option (List Int)
 |0,_,_=>none
 |j+1,b,c=>
 cond (decide (b<(min (↑c1_.length:Int) (↑a.length:Int)))) (
 (ix c b).bind λk=>
 (ix c b).bind λd=>
 (ix a b).bind λg=>
 (Gx N d g).bind λi=>
 (ix c b).bind λl=>
 (ix c b).bind λm=>
 Fp N a c1_ j (Bw (b+1)) (upd c b i)) (
 some c)
def Ij (N:Nat) (c1_:(List Int)) (a:(List Int)):Option (List Int):=
 Fp N a c1_ N 0 c1_
def Gq (N:Nat) (a:A7) (c:(List Int)→Option (List Int)):Nat→Int→(List Int)→Option (List Int)
 |0,_,_=>none
 |j+1,b,d=>
 cond (decide (b<(↑a.M.length:Int))) (
 (ix a.M b).bind λi=>
 (Ij N d i.Ag).bind λg=>
 Gq N a c j (Bw (b+1)) g) (
 c d)
def II (N:Nat) (a:List Int):Option (List Int):=
 some a
def GF (N:Nat) (a:A7) (b:List Int):Option (List Int):=
 Gq N a (II N) N 0 b
def GE (N:Nat) (a:A7) (c:(List Int)→Option (List Int)):Nat→Int→(List Int)→Option (List Int)
 |0,_,_=>none
 |j+1,b,d=>
 cond (decide (b<(↑a.F.length:Int))) (
 (ix a.F b).bind λg=>
 (Ij N d g).bind λi=>
 GE N a c j (Bw (b+1)) i) (
 c d)
def Jd (N:Nat) (a:A7):Option (List Int):=
 chk (Jk (↑a.S.length:Int) (↑a.S.length:Int) 8) <|
 GE N a (GF N a) N 0 (List.replicate ((↑a.S.length:Int):Int).toNat (0:Int))
def EG (N:Nat):Option Bool:=
 some true
def DX (N:Nat) (a:(List (List Int))) (b:(List (List Int))) (c:(((List Int)×(List Int))→Option Bool)) (g:Option Bool):Nat→Int→Option Bool
 |0,_=>none
 |l+1,d=>
 cond (decide (d<(↑a.length:Int))) (
 (ix a d).bind λi=>
 (ix b d).bind λj=>
 (c (i,j)).bind λk=>
 cond (!k) (
 some false) (
 DX N a b c g l (Bw (d+1)))) (
 g)
def GN (N:Nat) (a:(List (List Int))) (b:(List (List Int))) (c:(((List Int)×(List Int))→Option Bool)):Option Bool:=
 cond (decide ((↑a.length:Int)≠(↑b.length:Int))) (
 some false) (
 DX N a b c (EG N) N 0)
def Gz (N:Nat):Option Bool:=
 some true
def Fe (N:Nat) (a:(List Int)) (b:(List Int)) (c:Option Bool):Nat→Int→Option Bool
 |0,_=>none
 |j+1,d=>
 cond (decide (d<(↑a.length:Int))) (
 (ix a d).bind λg=>
 (ix b d).bind λi=>
 cond (decide (g≠i)) (
 some false) (
 Fe N a b c j (Bw (d+1)))) (
 c)
def D7 (N:Nat) (a:(List Int)) (b:(List Int)):Option Bool:=
 cond (decide ((↑a.length:Int)≠(↑b.length:Int))) (
 some false) (
 Fe N a b (Gz N) N 0)
def Bv (N:Nat):Option Bool:=
 some true
def BP (N:Nat) (a:(List BD)) (b:(List BD)) (c:((BD×BD)→Option Bool)) (g:Option Bool):Nat→Int→Option Bool
 |0,_=>none
 |l+1,d=>
 cond (decide (d<(↑a.length:Int))) (
 (ix a d).bind λi=>
 (ix b d).bind λj=>
 (c (i,j)).bind λk=>
 cond (!k) (
 some false) (
 BP N a b c g l (Bw (d+1)))) (
 g)
def CM (N:Nat) (a:(List BD)) (b:(List BD)) (c:((BD×BD)→Option Bool)):Option Bool:=
 cond (decide ((↑a.length:Int)≠(↑b.length:Int))) (
 some false) (
 BP N a b c (Bv N) N 0)
def DH (N:Nat):Option Bool:=
 some true
def Ch (N:Nat) (a:(List BG)) (b:(List BG)) (c:Option Bool):Nat→Int→Option Bool
 |0,_=>none
 |j+1,d=>
 cond (decide (d<(↑a.length:Int))) (
 (ix a d).bind λg=>
 (ix b d).bind λi=>
 cond (!(ZP g.v i.v)) (
 some false) (
 Ch N a b c j (Bw (d+1)))) (
 c)
def ED (N:Nat) (a:(List BG)) (b:(List BG)):Option Bool:=
 cond (decide ((↑a.length:Int)≠(↑b.length:Int))) (
 some false) (
 Ch N a b (DH N) N 0)
def Jy (N:Nat) (a:BD) (b:BD):Option Bool:=
 (cond ((decide (a.Ak=b.Ak))&&(decide (a.C=b.C))) ((D7 N a.Ag b.Ag).bind λc=>
 some c) (some false)).bind λd=>
 some d
def Ly (N:Nat) (a:A7) (b:A7):Option Bool:=
 (cond (decide (a.D=b.D)) ((GN N a.F b.F (λx=>D7 N x.1 x.2)).bind λc=>
 some c) (some false)).bind λd=>
 (cond d ((D7 N a.O b.O).bind λg=>
 some g) (some false)).bind λi=>
 (cond i ((CM N a.M b.M (λx=>Jy N x.1 x.2)).bind λj=>
 some j) (some false)).bind λk=>
 (cond k ((ED N a.P b.P).bind λl=>
 some l) (some false)).bind λm=>
 (cond m ((D7 N a.S b.S).bind λn=>
 some n) (some false)).bind λo=>
 (cond o ((D7 N a.U b.U).bind λp=>
 some p) (some false)).bind λq=>
 some q
def Hf (N:Nat):Option Bool:=
 (JU N).bind λo=>
 (Mg N o 5).bind λc=>
 (GB N o).bind λad=>
 (cond (!ad) (some true) ((IQ N o c).bind λp=>
 some (!p))).bind λae=>
 cond (ae||(decide ((↑c.F.length:Int)≠1))) (
 some false) (
 (Gr N o c (⟨[],[],[],[],[]⟩:DO)).bind λa=>
 (Gr N o c (⟨[],[],[],([(⟨0,1,60,(-1)⟩:G9)]:List G9),[]⟩:DO)).bind λb=>
 cond ((((decide ((↑a.2.1.length:Int)≠2))||(decide ((↑b.2.1.length:Int)≠2)))||(decide ((↑a.1.F.length:Int)≠1)))||(decide ((↑b.1.F.length:Int)≠1))) (
 some false) (
 (ix a.2.1 0).bind λaf=>
 (ix a.2.1 0).bind λq=>
 (cond (decide (q.Be=(-1))) ((ix a.2.1 0).bind λag=>
 (ix a.2.1 0).bind λs=>
 (Dk N s.Ag ([10,5]:List Int)).bind λt=>
 some t) (some false)).bind λu=>
 (cond u ((ix a.2.1 1).bind λah=>
 (ix a.2.1 1).bind λv=>
 some (decide (v.Be=(-2)))) (some false)).bind λw=>
 (cond w ((ix a.2.1 1).bind λai=>
 (ix a.2.1 1).bind λx=>
 (Dk N x.Ag ([10,5]:List Int)).bind λy=>
 some y) (some false)).bind λz=>
 (cond z ((Dk N a.2.2 ([150]:List Int)).bind λA=>
 some A) (some false)).bind λB=>
 (ix a.1.F 0).bind λC=>
 (Dk N C ([80,40]:List Int)).bind λG=>
 (cond G ((Dk N a.1.U ([20,10]:List Int)).bind λH=>
 some H) (some false)).bind λI=>
 (cond I (some (decide (a.1.D=6))) (some false)).bind λJ=>
 (cond J ((Jd N a.1).bind λK=>
 (Dk N K ([80,40]:List Int)).bind λM=>
 some M) (some false)).bind λQ=>
 (ix b.2.1 0).bind λaj=>
 (ix b.2.1 0).bind λV=>
 (cond (decide (V.Be=(-3))) ((ix b.2.1 0).bind λak=>
 (ix b.2.1 0).bind λW=>
 (Dk N W.Ag ([0,50]:List Int)).bind λX=>
 some X) (some false)).bind λY=>
 (cond Y ((ix b.2.1 1).bind λal=>
 (ix b.2.1 1).bind λZ=>
 (Dk N Z.Ag ([15,0]:List Int)).bind λaa=>
 some aa) (some false)).bind λab=>
 (cond ab ((ix b.1.F 0).bind λac=>
 (Dk N ac ([85,0]:List Int)).bind λd=>
 some d) (some false)).bind λg=>
 (cond ((B&&Q)&&g) ((Ly N c c).bind λi=>
 some i) (some false)).bind λj=>
 (cond j ((Ly N c a.1).bind λk=>
 some (!k)) (some false)).bind λl=>
 (cond l ((IQ N o a.1).bind λm=>
 some m) (some false)).bind λn=>
 some n))
def JH (N:Nat) (b:AU) (c:A7) (a:DO):Option Bool:=
 cond ((((decide (6<(↑b.A.length:Int)))||(decide (6<(↑b.E.length:Int))))||(decide (4<(↑b.J.length:Int))))||(decide (12<(↑c.M.length:Int)))) (
 some false) (
 some (((((decide ((↑a.X.length:Int)≤8))&&(decide ((↑a.Ap.length:Int)≤8)))&&(decide ((↑a.At.length:Int)≤8)))&&(decide ((↑a.Ad.length:Int)≤8)))&&(decide ((↑a.Ba.length:Int)≤8))))
def H6 (N:Nat) (a:AU) (b:A7) (c:DO):Option Bool:=
 (JH N a b c).bind λd=>
 (cond d ((GB N a).bind λg=>
 some g) (some false)).bind λi=>
 (cond i ((IQ N a b).bind λj=>
 some j) (some false)).bind λk=>
 some k
def Ga (N:Nat) (a:Int):Option Int:=
 some a
def EX (N:Nat) (a:(List Int)) (b:Int→Option Int):Nat→Int→Int→Option Int
 |0,_,_=>none
 |i+1,g,c=>
 cond (decide (c<(↑a.length:Int))) (
 (ix a c).bind λd=>
 EX N a b i (Bw (g+d)) (Bw (c+1))) (
 b g)
def Fu (N:Nat) (a:(List Int)):Option Int:=
 EX N a (Ga N) N 0 0
def Fh (N:Nat) (b:Int) (c:Int→Int→Option Bool) (a:Int):Option Bool:=
 c a (Bw (b+1))
def CY (N:Nat) (b:AU) (a:Int) (g:Bool) (i:Int→Option Bool):Nat→Int→Int→Option Bool
 |0,_,_=>none
 |k+1,j,d=>
 cond (decide (d<(↑b.E.length:Int))) (
 (ix b.E d).bind λc=>
 cond ((decide (c.G=a))&&(decide (c.B=3))) (
 some g) (
 cond ((decide (c.G=a))||(decide (c.C=a))) (
 Fh N d (CY N b a g i k) (Bw (j+2))) (
 Fh N d (CY N b a g i k) j))) (
 i j)
def DL (N:Nat) (a:DO) (d:Int→Option Bool):Nat→Int→Int→Option Bool
 |0,_,_=>none
 |i+1,c,b=>
 cond (decide (b<(↑a.X.length:Int))) (
 (ix a.X b).bind λg=>
 DL N a d i (Bw (c+(min (max g 0) 1125899906842624))) (Bw (b+1))) (
 d c)
def Ff (N:Nat) (b:A7×(List BB)×(List Int)) (c:A7×(List BB)×(List Int)) (a:Int) (j:Int→Option Bool) (d:Int):Option Bool:=
 (ix c.2.2 a).bind λk=>
 (ix c.2.2 a).bind λg=>
 (ix b.2.2 a).bind λl=>
 (ix b.2.2 a).bind λi=>
 cond (decide (g≠(Bw (i+d)))) (
 some false) (
 j (Bw (a+1)))
def Co (N:Nat) (d:AU) (g:Int) (i:Int) (a:A7×(List BB)×(List Int)) (b:A7×(List BB)×(List Int)) (j:Option Bool):Nat→Int→Option Bool
 |0,_=>none
 |k+1,c=>
 cond (decide (c<(↑d.A.length:Int))) (
 cond (decide (c=g)) (
 Ff N a b c (Co N d g i a b j k) i) (
 Ff N a b c (Co N d g i a b j k) 0)) (
 j)
def Eb (N:Nat) (a:Int) (d:Int) (m:Bool) (g:Int) (i:A7×(List BB)×(List Int)) (j:A7×(List BB)×(List Int)):Option Bool:=
 (ix j.1.F a).bind λk=>
 (Fu N k).bind λb=>
 (ix i.1.F a).bind λl=>
 (Fu N l).bind λc=>
 some ((m&&(decide ((Bw (0-g))≤(Bw (b-c)))))&&(decide ((Bw (b-c))≤(Bw (d+g)))))
def Fg (N:Nat) (a:AU) (b:A7) (g:DO) (c:Int) (d:Int) (m:Bool) (u:Int) (k:Int):Option Bool:=
 (Jd N b).bind λn=>
 (Fu N n).bind λo=>
 (cond (decide (1125899906842624<(Bw ((Bw (o+k))+d)))) (some true) ((Fu N b.S).bind λp=>
 some (decide (1152921504606846976<(Bw (p+k)))))).bind λq=>
 cond q (
 some m) (
 chk (room (([]:List (List Int)).length+b.F.length) 24) <|
 chk (Jk (↑a.J.length:Int) (↑a.J.length:Int) 8) <|
 (ix (List.replicate ((↑a.J.length:Int):Int).toNat (0:Int)) 0).bind λv=>
 (ix (List.replicate ((↑a.J.length:Int):Int).toNat (0:Int)) 0).bind λw=>
 (ix b.F c).bind λs=>
 (G2 N s (upd (List.replicate ((↑a.J.length:Int):Int).toNat (0:Int)) 0 d)).bind λl=>
 (ix (([]:List (List Int))++b.F) c).bind λx=>
 (ix (([]:List (List Int))++b.F) c).bind λy=>
 (IQ N a ({ b with F:=(upd (([]:List (List Int))++b.F) c l)}:A7)).bind λt=>
 cond (!t) (
 some m) (
 (Gr N a b g).bind λi=>
 (Gr N a ({ b with F:=(upd (([]:List (List Int))++b.F) c l)}:A7) g).bind λj=>
 cond ((decide ((↑i.2.2.length:Int)≠(↑a.A.length:Int)))||(decide ((↑j.2.2.length:Int)≠(↑a.A.length:Int)))) (
 some false) (
 Co N a c d i j (Eb N c d m u i j) N 0)))
def D3 (N:Nat) (b:AU) (c:A7) (a:DO) (d:Int) (g:Int) (i:Bool) (j:Int):Option Bool:=
 DL N a (Fg N b c a d g i j) N 0 0
def Ec (N:Nat) (a:AU) (d:A7) (c:DO) (b:Int) (g:Int) (i:Bool):Option Bool:=
 CY N a b i (D3 N a d c b g i) N 2 0
def C4 (N:Nat) (a:DO) (b:Int) (d:Bool) (g:Option Bool):Nat→Int→Option Bool
 |0,_=>none
 |j+1,c=>
 cond (decide (c<(↑a.Ad.length:Int))) (
 (ix a.Ad c).bind λi=>
 cond (decide (i.An=b)) (
 some d) (
 C4 N a b d g j (Bw (c+1)))) (
 g)
def Gm (N:Nat) (c:AU) (g:A7) (a:DO) (b:Int) (d:Int):Option Bool:=
 (Hf N).bind λi=>
 (H6 N c g a).bind λj=>
 cond (((((!j)||(decide (b<0)))||(decide ((↑c.A.length:Int)≤b)))||(decide (d<0)))||(decide (1125899906842624<d))) (
 some i) (
 C4 N a b i (Ec N c g a b d i) N 0)
end Go.Proofs.YtblcgjadhemlbaaGreat
