import Derived.Test.YtblcgjadhemlbaaGreatUReps
import Derived.Test.YtblcgjadhemlbaaGreatUSortD
namespace Go.Proofs.YtblcgjadhemlbaaGreat
open Go.RowKit
set_option linter.unusedVariables false
def IT (N:Nat):Option AW:=
 some (⟨(ByteArray.mk #[98]),Mj,0,Mk,[],[],[],[],[],([0,0,0]:List Int),0⟩:AW)
def CA (N:Nat) (a:(List Int)):Option (List Int):=
 chk (KN (([]:List Int).length+a.length) 8) <|
 some (([]:List Int)++a)
def I1 (N:Nat) (a:AW) (b:Int) (c:List (List Int)):Option Ak:=
 some (⟨b,c,(List.replicate ((↑a.Places.length:Int):Int).toNat (0:Int)),[],(List.replicate ((↑a.Links.length:Int):Int).toNat ((⟨0,0,false,false⟩:Au):Au)),(List.replicate ((↑a.Owners.length:Int):Int).toNat (0:Int)),(List.replicate ((↑a.Owners.length:Int):Int).toNat (0:Int))⟩:Ak)
def H6 (N:Nat) (c:AW) (d:(List (List Int))→Option Ak):Nat→Int→(List (List Int))→Option Ak
 |0,_,_=>none
 |l+1,a,b=>
 cond (decide (a<(↑c.Places.length:Int))) (
 Option.bind (ix c.Places a) λg=>
 Option.bind (CA N g.Start) λi=>
 Option.bind (ix b a) λj=>
 Option.bind (ix b a) λk=>
 H6 N c d l (BC (a+1)) (upd b a i)) (
 d b)
def Lk (N:Nat) (a:AW) (b:Int):Option Ak:=
 chk (JC (↑a.Places.length:Int) (↑a.Places.length:Int) 24) <|
 chk (JC (↑a.Places.length:Int) (↑a.Places.length:Int) 8) <|
 chk (JC (↑a.Links.length:Int) (↑a.Links.length:Int) 24) <|
 chk (JC (↑a.Owners.length:Int) (↑a.Owners.length:Int) 8) <|
 chk (JC (↑a.Owners.length:Int) (↑a.Owners.length:Int) 8) <|
 H6 N a (I1 N a b) N 0 (List.replicate ((↑a.Places.length:Int):Int).toNat ([]:(List Int)))
def B8 (N:Nat) (c:Int) (b:Int) (a:Int):Option Bool:=
 some ((decide (b≤c))&&(decide (c≤a)))
def B0 (N:Nat) (a:Int):Option Bool:=
 Option.bind (B8 N a 0 1125899906842624) λb=>
 some b
def DX (N:Nat) (a:AW) (c:Option Bool):Nat→Int→Option Bool
 |0,_=>none
 |i+1,b=>
 cond (decide (b<(↑a.Room.length:Int))) (
 Option.bind (ix a.Room b) λd=>
 Option.bind (B0 N d) λg=>
 cond (!g) (
 some false) (
 DX N a c i (BC (b+1)))) (
 c)
def FI (N:Nat):Option Bool:=
 some true
def DZ (N:Nat) (a:AW):Option Bool:=
 DX N a (FI N) N 0
def DY (N:Nat) (a:AW) (d:Option Bool):Nat→Int→Option Bool
 |0,_=>none
 |g+1,c=>
 cond (decide (c<(↑a.Name.size:Int))) (
 Option.bind (Uq a.Name c) λb=>
 cond ((((decide (b<32))||(decide (126<b)))||(decide (b=34)))||(decide (b=92))) (
 some false) (
 DY N a d g (BC (c+1)))) (
 d)
def HH (N:Nat) (a:AW):Option Bool:=
 Option.bind (cond (decide (500<(↑a.Name.size:Int))) (some true) (Option.bind (B8 N (↑a.Owners.length:Int) 1 16) λb=>
 some (!b))) λc=>
 Option.bind (cond c (some true) (Option.bind (B8 N a.Cells 0 64) λd=>
 some (!d))) λg=>
 Option.bind (cond g (some true) (Option.bind (B8 N (↑a.Places.length:Int) 1 64) λi=>
 some (!i))) λj=>
 Option.bind (cond ((((((j||(decide (96<(↑a.Links.length:Int))))||(decide (40<(↑a.Towns.length:Int))))||(decide (128<(↑a.Gauges.length:Int))))||(decide (128<(↑a.Roads.length:Int))))||(decide (40<(↑a.Shelters.length:Int))))||(decide ((↑a.Room.length:Int)≠3))) (some true) (Option.bind (B8 N a.Err 0 1099511627776) λk=>
 some (!k))) λl=>
 cond l (
 some false) (
 DY N a (DZ N a) N 0)
def GI (N:Nat):Option Bool:=
 some true
def EZ (N:Nat) (a:ByteArray) (d:Option Bool):Nat→Int→Option Bool
 |0,_=>none
 |g+1,c=>
 cond (decide (c<(↑a.size:Int))) (
 Option.bind (Uq a c) λb=>
 cond ((((decide (b<97))||(decide (122<b)))&&((decide (b<48))||(decide (57<b))))&&(decide (b≠95))) (
 some false) (
 EZ N a d g (BC (c+1)))) (
 d)
def IU (N:Nat) (a:ByteArray):Option Bool:=
 Option.bind (cond (((decide ((↑a.size:Int)<1))||(decide (24<(↑a.size:Int))))||(a==(ByteArray.mk #[111,117,116]))) (some true) (Option.bind (Uq a 0) λb=>
 some (decide (b<97)))) λc=>
 Option.bind (cond c (some true) (Option.bind (Uq a 0) λd=>
 some (decide (122<d)))) λg=>
 cond g (
 some false) (
 EZ N a (GI N) N 1)
def Gg (N:Nat) (a:(List (AQ×Bool))) (b:ByteArray) (d:ByteArray):Option (Bool×(List (AQ×Bool))):=
 Option.bind (IU N b) λc=>
 cond ((!c)||((Oy (λk:AQ=>Value.agg (AQ.v k).toArray) a (⟨d,b⟩:AQ)).getD false)) (
 some (false,a)) (
 some (true,(RQ (λk:AQ=>Value.agg (AQ.v k).toArray) a (⟨d,b⟩:AQ) true)))
def Iu (N:Nat) (a:(List (AQ×Bool))) (b:ByteArray) (c:ByteArray):Option (Bool×(List (AQ×Bool))):=
 cond (b==(ByteArray.mk #[115,104,101,108,116,101,114])) (
 Gg N a c (ByteArray.mk #[116,111,119,110])) (
 Gg N a c b)
def CP (N:Nat) (c2_:(List (AQ×Bool))) (c3_:Bool) (a:ByteArray) (b:ByteArray):Option ((List (AQ×Bool))×Bool):=
 Option.bind (Iu N c2_ a b) λc=>
 some (c.2,(c.1&&c3_))
def Ck (N:Nat) (a:AW) (d:Bool→((List (AQ×Bool)))→Option Bool):Nat→Int→Bool→((List (AQ×Bool)))→Option Bool
 |0,_,_,_=>none
 |k+1,c,g,i=>
 cond (decide (c<(↑a.Places.length:Int))) (
 Option.bind (ix a.Places c) λj=>
 Option.bind (CP N i g (ByteArray.mk #[112,108,97,99,101]) j.Name) λb=>
 Ck N a d k (BC (c+1)) b.2 b.1) (
 d g i)
def Cj (N:Nat) (a:AW) (i:Bool→((List (AQ×Bool)))→Option Bool):Nat→Int→Bool→((List (AQ×Bool)))→Option Bool
 |0,_,_,_=>none
 |k+1,b,c,d=>
 cond (decide (b<(↑a.Links.length:Int))) (
 Option.bind (ix a.Links b) λj=>
 Option.bind (CP N d c (ByteArray.mk #[108,105,110,107]) j.Name) λg=>
 Cj N a i k (BC (b+1)) g.2 g.1) (
 i c d)
def Ci (N:Nat) (a:AW) (i:Bool→((List (AQ×Bool)))→Option Bool):Nat→Int→Bool→((List (AQ×Bool)))→Option Bool
 |0,_,_,_=>none
 |k+1,b,c,d=>
 cond (decide (b<(↑a.Towns.length:Int))) (
 Option.bind (ix a.Towns b) λj=>
 Option.bind (CP N d c (ByteArray.mk #[116,111,119,110]) j.Name) λg=>
 Ci N a i k (BC (b+1)) g.2 g.1) (
 i c d)
def Ch (N:Nat) (a:AW) (i:Bool→((List (AQ×Bool)))→Option Bool):Nat→Int→Bool→((List (AQ×Bool)))→Option Bool
 |0,_,_,_=>none
 |k+1,b,c,d=>
 cond (decide (b<(↑a.Shelters.length:Int))) (
 Option.bind (ix a.Shelters b) λj=>
 Option.bind (CP N d c (ByteArray.mk #[115,104,101,108,116,101,114]) j.Name) λg=>
 Ch N a i k (BC (b+1)) g.2 g.1) (
 i c d)
def CY (N:Nat) (a:AW) (c:Bool→((List (AQ×Bool)))→Option Bool):Nat→Int→Bool→((List (AQ×Bool)))→Option Bool
 |0,_,_,_=>none
 |k+1,b,d,g=>
 cond (decide (b<(↑a.Gauges.length:Int))) (
 Option.bind (ix a.Gauges b) λj=>
 Option.bind (CP N g d (ByteArray.mk #[103,97,117,103,101]) j.Name) λi=>
 CY N a c k (BC (b+1)) i.2 i.1) (
 c d g)
def CX (N:Nat) (a:AW) (c:Bool→Option Bool):Nat→Int→Bool→((List (AQ×Bool)))→Option Bool
 |0,_,_,_=>none
 |k+1,b,d,i=>
 cond (decide (b<(↑a.Roads.length:Int))) (
 Option.bind (ix a.Roads b) λj=>
 Option.bind (CP N i d (ByteArray.mk #[114,111,97,100]) j.Name) λg=>
 CX N a c k (BC (b+1)) g.2 g.1) (
 c d)
def Dd (N:Nat) (a:Bool):Option Bool:=
 some a
def De (N:Nat) (a:AW) (b:Bool) (c:(List (AQ×Bool))):Option Bool:=
 CX N a (Dd N) N 0 b c
def Dq (N:Nat) (a:AW) (b:Bool) (c:(List (AQ×Bool))):Option Bool:=
 CY N a (De N a) N 0 b c
def Dr (N:Nat) (a:AW) (b:Bool) (c:(List (AQ×Bool))):Option Bool:=
 Ch N a (Dq N a) N 0 b c
def Dt (N:Nat) (a:AW) (b:Bool) (c:(List (AQ×Bool))):Option Bool:=
 Ci N a (Dr N a) N 0 b c
def Du (N:Nat) (a:AW) (b:Bool) (c:(List (AQ×Bool))):Option Bool:=
 Cj N a (Dt N a) N 0 b c
def Dv (N:Nat) (a:AW) (b:Bool) (c:(List (AQ×Bool))):Option Bool:=
 Ck N a (Du N a) N 0 b c
def Cm (N:Nat) (a:AW) (c:Bool→((List (AQ×Bool)))→Option Bool):Nat→Int→Bool→((List (AQ×Bool)))→Option Bool
 |0,_,_,_=>none
 |k+1,b,d,g=>
 cond (decide (b<(↑a.Owners.length:Int))) (
 Option.bind (ix a.Owners b) λj=>
 Option.bind (CP N g d (ByteArray.mk #[111,119,110,101,114]) j) λi=>
 Cm N a c k (BC (b+1)) i.2 i.1) (
 c d g)
def Hx (N:Nat) (a:AW):Option Bool:=
 Cm N a (Dv N a) N 0 true ([]:(List (AQ×Bool)))
def Hk (N:Nat):Option Bool:=
 some true
def Fo (N:Nat) (a:(List BO)) (d:Option Bool):Nat→Int→Option Bool
 |0,_=>none
 |l+1,c=>
 cond (decide (c<(↑a.length:Int))) (
 Option.bind (ix a c) λb=>
 cond ((((decide (b.X<0))||(decide (1125899906842624<b.X)))||(decide (b.Y<0)))||(decide (1125899906842624<b.Y))) (
 some false) (
 Option.bind (cond (decide (0<c)) (Option.bind (ix a (BC (c-1))) λg=>
 Option.bind (cond (decide (b.X≤g.X)) (some true) (Option.bind (ix a (BC (c-1))) λi=>
 some (decide (b.Y<i.Y)))) λj=>
 some j) (some false)) λk=>
 cond k (
 some false) (
 Fo N a d l (BC (c+1))))) (
 d)
def El (N:Nat) (a:(List BO)):Option Bool:=
 cond ((decide ((↑a.length:Int)<1))||(decide (32<(↑a.length:Int)))) (
 some false) (
 Fo N a (Hk N) N 0)
def Fp (N:Nat) (a:Int) (b:Int):Option Bool:=
 Option.bind (B0 N a) λc=>
 Option.bind (cond c (Option.bind (B0 N b) λd=>
 some d) (some false)) λg=>
 some (g&&((decide (b≠0))||(decide (a=0))))
def D8 (N:Nat) (b:Int) (a:Int):Option Bool:=
 Option.bind (B8 N b 0 (BC (a-1))) λc=>
 some c
def Hl (N:Nat) (c:AW) (b:Int) (a:Int):Option Bool:=
 Option.bind (cond (decide (a=(-1))) (some true) (Option.bind (D8 N a (↑c.Places.length:Int)) λd=>
 some (d&&(decide (a≠b))))) λg=>
 some g
def Bo (N:Nat) (a:Int):Option Bool:=
 some (decide (a≤1125899906842624))
def CW (N:Nat) (d:Dx) (g:Int→Option Bool):Nat→Int→Int→Option Bool
 |0,_,_=>none
 |j+1,b,a=>
 cond (decide (a<(↑d.Start.length:Int))) (
 Option.bind (ix d.Start a) λc=>
 Option.bind (B0 N c) λi=>
 cond (!i) (
 some false) (
 CW N d g j (BC (b+c)) (BC (a+1)))) (
 g b)
def CV (N:Nat) (c:AW) (g:Dx) (d:Int) (i:Int→Option Bool):Nat→Int→Int→Option Bool
 |0,_,_=>none
 |m+1,j,b=>
 cond (decide (b<(↑g.Rain.length:Int))) (
 Option.bind (ix g.Rain b) λa=>
 Option.bind (cond ((decide (a.Index≤j))||(decide (c.Cells≤a.Index))) (some true) (Option.bind (B0 N a.Area) λk=>
 some (!k))) λl=>
 cond l (
 some false) (
 CV N c g d i m a.Index (BC (b+1)))) (
 i d)
def Dc (N:Nat) (a:AW) (c:Dx) (d:Int→Option Bool) (b:Int):Option Bool:=
 CV N a c b d N (-1) 0
def CC (N:Nat) (a:Int) (b:Int→Int→Option Bool) (c:Int):Option Bool:=
 b c (BC (a+1))
def BX (N:Nat) (b:AW) (d:Int→Option Bool):Nat→Int→Int→Option Bool
 |0,_,_=>none
 |y+1,g,c=>
 cond (decide (c<(↑b.Places.length:Int))) (
 Option.bind (ix b.Places c) λa=>
 Option.bind (B8 N a.Kind 0 3) λj=>
 Option.bind (cond (!j) (some true) (Option.bind (B8 N a.Office 0 2) λk=>
 some (!k))) λl=>
 Option.bind (cond l (some true) (Option.bind (B8 N a.Delay 0 240) λm=>
 some (!m))) λn=>
 Option.bind (cond n (some true) (Option.bind (B0 N a.Cap) λo=>
 some (!o))) λp=>
 Option.bind (cond p (some true) (Option.bind (B0 N a.Floor) λq=>
 some (!q))) λs=>
 Option.bind (cond s (some true) (Option.bind (El N a.Level) λt=>
 some (!t))) λu=>
 Option.bind (cond (u||(decide ((↑a.Start.length:Int)≠(↑b.Owners.length:Int)))) (some true) (Option.bind (Fp N a.Num a.Den) λv=>
 some (!v))) λw=>
 Option.bind (cond w (some true) (Option.bind (Hl N b c a.Down) λi=>
 some (!i))) λx=>
 cond x (
 some false) (
 CW N a (Dc N b a (CC N c (BX N b d y))) N g 0)) (
 d g)
def HT (N:Nat) (a:AW):Option Bool:=
 BX N a (Bo N) N 0 0
def Hd (N:Nat) (a:Int):Option Int:=
 some a
def E9 (N:Nat) (b:(Int→Option Bool)) (d:Int→Option Int):Nat→Int→Int→Option Int
 |0,_,_=>none
 |i+1,a,c=>
 cond (decide (a<c)) (
 Option.bind (b (BC (Dp .u64 (IntKind.wrap .u64 (BC (a+c))) 1))) λg=>
 cond (!g) (
 E9 N b d i (BC ((BC (Dp .u64 (IntKind.wrap .u64 (BC (a+c))) 1))+1)) c) (
 E9 N b d i a (BC (Dp .u64 (IntKind.wrap .u64 (BC (a+c))) 1)))) (
 d a)
def Jn (N:Nat) (a:Int) (b:(Int→Option Bool)):Option Int:=
 E9 N b (Hd N) N 0 a
def G5 (N:Nat) (c1_:(List BO)) (c2_:Int) (a:Int):Option Bool:=
 Option.bind (ix c1_ a) λb=>
 some (decide (c2_<b.X))
def GH (N:Nat) (a:Int) (b:Int):Option (Int×Int):=
 some ((IntKind.wrap .u64 ((IntKind.wrap .u64 ((IntKind.wrap .u64 ((Dp .u64 a 32)*(Dp .u64 b 32)))+(Dp .u64 (IntKind.wrap .u64 ((IntKind.wrap .u64 ((Dp .u64 a 32)*(Gx .and .u64 b 4294967295)))+(Dp .u64 (IntKind.wrap .u64 ((Gx .and .u64 a 4294967295)*(Gx .and .u64 b 4294967295))) 32))) 32)))+(Dp .u64 (IntKind.wrap .u64 ((Gx .and .u64 (IntKind.wrap .u64 ((IntKind.wrap .u64 ((Dp .u64 a 32)*(Gx .and .u64 b 4294967295)))+(Dp .u64 (IntKind.wrap .u64 ((Gx .and .u64 a 4294967295)*(Gx .and .u64 b 4294967295))) 32))) 4294967295)+(IntKind.wrap .u64 ((Gx .and .u64 a 4294967295)*(Dp .u64 b 32))))) 32))),(IntKind.wrap .u64 (a*b)))
def FA (N:Nat) (a:Int) (b:Int):Option Int:=
 Option.bind (Uq K7 (IntKind.wrap .u8 a)) λc=>
 some (BC (b+(BC c)))
def FB (N:Nat) (a:Int) (b:Int):Option Int:=
 cond (decide (256≤a)) (
 FA N (Dp .u64 a 8) (BC (b+8))) (
 FA N a b)
def FC (N:Nat) (a:Int) (b:Int):Option Int:=
 cond (decide (65536≤a)) (
 FB N (Dp .u64 a 16) (BC (b+16))) (
 FB N a b)
def HG (N:Nat) (a:Int):Option Int:=
 cond (decide (4294967296≤a)) (
 FC N (Dp .u64 a 32) 32) (
 FC N a 0)
def D6 (N:Nat) (a:Int):Option Int:=
 Option.bind (HG N a) λb=>
 some (BC (64-b))
def C1 (N:Nat) (b:Int) (a:Int) (d:Nat) (j:Nat) (g:Int→Option (Int×Int)):Nat→Int→Int→Option (Int×Int)
 |0,_,_=>none
 |k+1,i,c=>
 cond ((decide (4294967296≤c))||(decide ((IntKind.wrap .u64 ((IntKind.wrap .u64 (4294967296*i))+(Gx .and .u64 (Cw .u64 b j) 4294967295)))<(IntKind.wrap .u64 (c*(Gx .and .u64 (Cw .u64 a d) 4294967295)))))) (
 cond (decide (4294967296≤(IntKind.wrap .u64 (i+(Dp .u64 (Cw .u64 a d) 32))))) (
 g (IntKind.wrap .u64 (c-1))) (
 C1 N b a d j g k (IntKind.wrap .u64 (i+(Dp .u64 (Cw .u64 a d) 32))) (IntKind.wrap .u64 (c-1)))) (
 g c)
def D7 (N:Nat) (c:Int) (a:Int) (b:Int) (n:Int) (d:Nat) (k:Nat) (l:Nat) (g:Nat) (i:Int) (j:Int):Option (Int×Int):=
 Option.bind (NL (IntKind.wrap .u64 n)) λm=>
 some ((IntKind.wrap .u64 ((IntKind.wrap .u64 (i*4294967296))+j)),(Dp .u64 (IntKind.wrap .u64 ((IntKind.wrap .u64 ((IntKind.wrap .u64 ((IntKind.wrap .u64 ((IntKind.wrap .u64 ((IntKind.wrap .u64 ((Gx .or .u64 (Cw .u64 c k) (Dp .u64 a l))*4294967296))+(Dp .u64 (Cw .u64 a g) 32)))-(IntKind.wrap .u64 (i*(Cw .u64 b d)))))*4294967296))+(Gx .and .u64 (Cw .u64 a g) 4294967295)))-(IntKind.wrap .u64 (j*(Cw .u64 b d))))) m))
def C2 (N:Nat) (c:Int) (a:Int) (b:Int) (m:Int) (d:Nat) (i:Nat) (j:Nat) (g:Nat) (k:Int):Option (Int×Int):=
 Option.bind (Ow .u64 (IntKind.wrap .u64 ((IntKind.wrap .u64 ((IntKind.wrap .u64 ((Gx .or .u64 (Cw .u64 c i) (Dp .u64 a j))*4294967296))+(Dp .u64 (Cw .u64 a g) 32)))-(IntKind.wrap .u64 (k*(Cw .u64 b d))))) (Dp .u64 (Cw .u64 b d) 32)) λl=>
 C1 N a b d g (D7 N c a b m d i j g k) N (IntKind.wrap .u64 ((IntKind.wrap .u64 ((IntKind.wrap .u64 ((IntKind.wrap .u64 ((Gx .or .u64 (Cw .u64 c i) (Dp .u64 a j))*4294967296))+(Dp .u64 (Cw .u64 a g) 32)))-(IntKind.wrap .u64 (k*(Cw .u64 b d)))))-(IntKind.wrap .u64 (l*(Dp .u64 (Cw .u64 b d) 32))))) l
def Cd (N:Nat) (b:Int) (a:Int) (d:Nat) (j:Nat) (g:Int→Option (Int×Int)):Nat→Int→Int→Option (Int×Int)
 |0,_,_=>none
 |k+1,c,i=>
 cond ((decide (4294967296≤c))||(decide ((IntKind.wrap .u64 ((IntKind.wrap .u64 (4294967296*i))+(Dp .u64 (Cw .u64 b j) 32)))<(IntKind.wrap .u64 (c*(Gx .and .u64 (Cw .u64 a d) 4294967295)))))) (
 cond (decide (4294967296≤(IntKind.wrap .u64 (i+(Dp .u64 (Cw .u64 a d) 32))))) (
 g (IntKind.wrap .u64 (c-1))) (
 Cd N b a d j g k (IntKind.wrap .u64 (c-1)) (IntKind.wrap .u64 (i+(Dp .u64 (Cw .u64 a d) 32))))) (
 g c)
def EY (N:Nat) (c:Int) (b:Int) (a:Int):Option (Int×Int):=
 cond (decide (a=0)) (
 none) (
 cond (decide (a≤c)) (
 none) (
 cond (decide (c=0)) (
 Option.bind (Ow .u64 b a) λm=>
 Option.bind (RI b a) λn=>
 some (m,n)) (
 Option.bind (D6 N a) λj=>
 Option.bind (NL (IntKind.wrap .u64 j)) λd=>
 Option.bind (NL (IntKind.wrap .u64 j)) λg=>
 Option.bind (NL (IntKind.wrap .u64 (64-(IntKind.wrap .u64 j)))) λi=>
 Option.bind (NL (IntKind.wrap .u64 j)) λk=>
 Option.bind (Ow .u64 (Gx .or .u64 (Cw .u64 c g) (Dp .u64 b i)) (Dp .u64 (Cw .u64 a d) 32)) λl=>
 Cd N b a d k (C2 N c b a j d g i k) N l (IntKind.wrap .u64 ((Gx .or .u64 (Cw .u64 c g) (Dp .u64 b i))-(IntKind.wrap .u64 (l*(Dp .u64 (Cw .u64 a d) 32))))))))
def Ek (N:Nat) (c:Int) (b:Int) (a:Int):Option (Int×Int×Bool):=
 cond ((((((decide (c<0))||(decide (1125899906842624<c)))||(decide (b<0)))||(decide (1125899906842624<b)))||(decide (a<1)))||(decide (1125899906842624<a))) (
 some (0,0,false)) (
 Option.bind (GH N (IntKind.wrap .u64 c) (IntKind.wrap .u64 b)) λg=>
 cond (decide ((IntKind.wrap .u64 a)≤g.1)) (
 some (0,0,false)) (
 Option.bind (EY N g.1 g.2 (IntKind.wrap .u64 a)) λd=>
 cond (decide (1125899906842624<d.1)) (
 some (0,0,false)) (
 some ((BC d.1),(BC d.2),true))))
def HL (N:Nat) (a:(List BO)) (d:Int):Option (Int×Bool):=
 Option.bind (Jn N (↑a.length:Int) (λx=>G5 N a d x)) λb=>
 cond (decide (b=0)) (
 Option.bind (ix a 0) λi=>
 some (i.Y,false)) (
 Option.bind (ix a (BC (b-1))) λc=>
 cond (decide (b=(↑a.length:Int))) (
 some (c.Y,false)) (
 Option.bind (ix a b) λj=>
 Option.bind (ix a b) λk=>
 Option.bind (Ek N (BC (d-c.X)) (BC (j.Y-c.Y)) (BC (k.X-c.X))) λg=>
 some ((BC (c.Y+g.1)),(decide (0<g.2.1)))))
def FD (N:Nat) (b:(List BO)) (a:(List BO)) (i:Option Bool):Nat→Int→Option Bool
 |0,_=>none
 |j+1,c=>
 cond (decide (c<(↑a.length:Int))) (
 Option.bind (ix a c) λd=>
 Option.bind (HL N b d.X) λg=>
 cond ((decide (d.Y<g.1))||((decide (g.1=d.Y))&&g.2)) (
 some false) (
 FD N b a i j (BC (c+1)))) (
 i)
def Gf (N:Nat):Option Bool:=
 some true
def FG (N:Nat) (a:(List BO)) (b:(List BO)):Option Bool:=
 FD N a b (Gf N) N 0
def FE (N:Nat) (a:(List BO)) (b:(List BO)) (d:Option Bool):Nat→Int→Option Bool
 |0,_=>none
 |j+1,c=>
 cond (decide (c<(↑a.length:Int))) (
 Option.bind (ix a c) λg=>
 Option.bind (HL N b g.X) λi=>
 cond (decide (i.1<g.Y)) (
 some false) (
 FE N a b d j (BC (c+1)))) (
 d)
def Gb (N:Nat) (a:(List BO)) (b:(List BO)):Option Bool:=
 Option.bind (El N a) λc=>
 Option.bind (cond (!c) (some true) (Option.bind (El N b) λd=>
 some (!d))) λg=>
 cond g (
 some false) (
 FE N a b (FG N a b) N 0)
def EM (N:Nat) (a:Ay) (b:Bool):Option Bool:=
 cond b (
 Option.bind (B0 N a.Crest) λc=>
 Option.bind (cond c (Option.bind (B0 N a.Num) λd=>
 some d) (some false)) λg=>
 Option.bind (cond g (Option.bind (B8 N a.Den 1 1125899906842624) λi=>
 some i) (some false)) λj=>
 some j) (
 cond (decide (a.Kind=2)) (
 Option.bind (B0 N a.Num) λk=>
 Option.bind (cond k (Option.bind (B8 N a.Positions 1 64) λl=>
 some l) (some false)) λm=>
 Option.bind (cond m (Option.bind (B8 N a.Speed 0 a.Positions) λn=>
 some n) (some false)) λo=>
 some o) (
 cond (decide (a.Kind=3)) (
 Option.bind (B0 N a.Num) λp=>
 Option.bind (cond p (Option.bind (B8 N a.Den 1 1125899906842624) λq=>
 some q) (some false)) λs=>
 Option.bind (cond s (Option.bind (B0 N a.Prime) λt=>
 some t) (some false)) λu=>
 Option.bind (cond u (Option.bind (B0 N a.Break) λv=>
 some v) (some false)) λw=>
 some (w&&(decide (a.Break<a.Prime)))) (
 Option.bind (B0 N a.Num) λx=>
 Option.bind (cond x (Option.bind (B8 N a.Den 1 1125899906842624) λy=>
 some y) (some false)) λz=>
 Option.bind (cond z (Option.bind (Fp N a.BackNum a.BackDen) λA=>
 some A) (some false)) λB=>
 some (B&&(decide (a.To≠(-1)))))))
def GT (N:Nat) (a:Ay):Option Bool:=
 cond (decide (a.Kind=0)) (
 Option.bind (El N a.Rate) λb=>
 Option.bind (cond b (Option.bind (El N a.Band.Lo) λc=>
 some c) (some false)) λd=>
 Option.bind (cond d (Option.bind (El N a.Band.Hi) λg=>
 some g) (some false)) λi=>
 Option.bind (cond i (Option.bind (Gb N a.Band.Lo a.Rate) λj=>
 some j) (some false)) λk=>
 Option.bind (cond k (Option.bind (Gb N a.Rate a.Band.Hi) λl=>
 some l) (some false)) λm=>
 Option.bind (cond m (Option.bind (B8 N a.Positions 0 64) λn=>
 some n) (some false)) λo=>
 Option.bind (cond o (Option.bind (B8 N a.Speed 0 a.Positions) λp=>
 some p) (some false)) λq=>
 Option.bind (cond q (Option.bind (B0 N a.Leak) λs=>
 some s) (some false)) λt=>
 Option.bind (cond t (Option.bind (Fp N a.BackNum a.BackDen) λu=>
 some u) (some false)) λv=>
 some (v&&((decide (a.To≠(-1)))||(decide (a.BackDen=0))))) (
 cond (decide (a.Kind=1)) (
 EM N a (decide (a.Kind=1))) (
 EM N a (decide (a.Kind=5))))
def GQ (N:Nat) (a:Ay):Option Bool:=
 cond ((!(decide (a.Kind=0)))&&((((decide (0<(↑a.Rate.length:Int)))||(decide (0<(↑a.Band.Lo.length:Int))))||(decide (0<(↑a.Band.Hi.length:Int))))||(decide (a.Leak≠0)))) (
 some false) (
 cond (((!(decide (a.Kind=0)))&&(decide (a.Kind≠2)))&&((decide (a.Positions≠0))||(decide (a.Speed≠0)))) (
 some false) (
 cond (((decide (a.Kind≠1))&&(decide (a.Kind≠5)))&&(decide (a.Crest≠0))) (
 some false) (
 cond (((decide (a.Kind=0))&&(decide (a.Num≠0)))||(((decide (a.Kind=0))||(decide (a.Kind=2)))&&(decide (a.Den≠0)))) (
 some false) (
 cond ((decide (a.Kind≠3))&&((decide (a.Prime≠0))||(decide (a.Break≠0)))) (
 some false) (
 some (((decide (a.Kind=0))||(decide (a.Kind=4)))||((decide (a.BackNum=0))&&(decide (a.BackDen=0)))))))))
def Ed (N:Nat):Option Bool:=
 some true
def DH (N:Nat) (a:AW) (d:Option Bool):Nat→Int→Option Bool
 |0,_=>none
 |t+1,c=>
 cond (decide (c<(↑a.Links.length:Int))) (
 Option.bind (ix a.Links c) λb=>
 Option.bind (B8 N b.Kind 0 5) λg=>
 Option.bind (cond (!g) (some true) (Option.bind (D8 N b.From (↑a.Places.length:Int)) λi=>
 some (!i))) λj=>
 Option.bind (cond j (some true) (Option.bind (Hl N a b.From b.To) λk=>
 some (!k))) λl=>
 Option.bind (cond l (some true) (Option.bind (B8 N b.Delay 0 240) λm=>
 some (!m))) λn=>
 Option.bind (cond n (some true) (Option.bind (GT N b) λo=>
 some (!o))) λp=>
 Option.bind (cond p (some true) (Option.bind (GQ N b) λq=>
 some (!q))) λs=>
 cond s (
 some false) (
 DH N a d t (BC (c+1)))) (
 d)
def Gr (N:Nat) (a:AW):Option Bool:=
 DH N a (Ed N) N 0
def Ig (N:Nat) (c:AW) (a:Int) (b:Int):Option Bool:=
 cond (decide (b=(-1))) (
 some (decide (a=2))) (
 Option.bind (ix c.Places b) λd=>
 some ((decide (d.Office=a))||(decide (d.Office=(BC (a+1))))))
def Co (N:Nat) (a:AW) (g:Option Bool):Nat→Int→Option Bool
 |0,_=>none
 |m+1,d=>
 cond (decide (d<(↑a.Links.length:Int))) (
 Option.bind (ix a.Links d) λb=>
 Option.bind (ix a.Places b.From) λc=>
 Option.bind (Ig N a c.Office b.To) λi=>
 Option.bind (cond (!i) (some true) (Option.bind (cond (decide (b.Kind=4)) (Option.bind (ix a.Places b.To) λj=>
 some (decide (j.Office≠c.Office))) (some false)) λk=>
 some k)) λl=>
 cond l (
 some false) (
 Co N a g m (BC (d+1)))) (
 g)
def D3 (N:Nat):Option Bool:=
 some true
def Cq (N:Nat) (a:AW):Option Bool:=
 Co N a (D3 N) N 0
def Cp (N:Nat) (a:AW) (c:Option Bool):Nat→Int→Option Bool
 |0,_=>none
 |i+1,b=>
 cond (decide (b<(↑a.Places.length:Int))) (
 Option.bind (ix a.Places b) λd=>
 Option.bind (Ig N a d.Office d.Down) λg=>
 cond (!g) (
 some false) (
 Cp N a c i (BC (b+1)))) (
 c)
def F7 (N:Nat) (a:AW):Option Bool:=
 Cp N a (Cq N a) N 0
def If (N:Nat) (a:Int):Option Int:=
 some (BC a)
def Em (N:Nat) (b:Int) (a:Int):Option Int:=
 cond (decide (a=0)) (
 some 0) (
 cond (decide (a<b)) (
 some 1099511627777) (
 Option.bind (GH N (IntKind.wrap .u64 b) 1099511627776) λd=>
 Option.bind (EY N d.1 d.2 (IntKind.wrap .u64 a)) λc=>
 cond (decide (c.2≠0)) (
 If N (IntKind.wrap .u64 (c.1+1))) (
 If N c.1)))
def DN (N:Nat) (a:Int):Option Int:=
 some a
def Dn (N:Nat) (a:(List BO)) (c:Int→Option Int):Nat→Int→Int→Option Int
 |0,_,_=>none
 |m+1,d,b=>
 cond (decide (b<(↑a.length:Int))) (
 Option.bind (ix a b) λg=>
 Option.bind (ix a (BC (b-1))) λi=>
 Option.bind (ix a b) λj=>
 Option.bind (ix a (BC (b-1))) λk=>
 Option.bind (Em N (BC (g.Y-i.Y)) (BC (j.X-k.X))) λl=>
 Dn N a c m (max d l) (BC (b+1))) (
 c d)
def ET (N:Nat) (a:Int) (b:Int→Int→Option Int) (c:Int):Option Int:=
 b c (BC (a+1))
def CT (N:Nat) (a:(List (List BO))) (c:Int→Option Int):Nat→Int→Int→Option Int
 |0,_,_=>none
 |i+1,g,b=>
 cond (decide (b<(↑a.length:Int))) (
 Option.bind (ix a b) λd=>
 Dn N d (ET N b (CT N a c i)) N g 1) (
 c g)
def Hm (N:Nat) (a:(List (List BO))):Option Int:=
 CT N a (DN N) N 0 0
def B1 (N:Nat) (b:Int) (c:Int→(List Int)→Option Bool) (a:List Int):Option Bool:=
 c (BC (b+1)) a
def C5 (N:Nat) (b:List Int) (a:Ay) (g:(List Int)→Option Bool) (i:Bool):Option Bool:=
 cond i (
 Option.bind (ix b a.From) λn=>
 Option.bind (ix b a.From) λj=>
 Option.bind (Em N a.Num a.Den) λk=>
 Option.bind (ix b a.From) λo=>
 Option.bind (ix b a.From) λp=>
 g (upd b a.From (BC (j+k)))) (
 cond (decide (a.Kind=4)) (
 Option.bind (ix b a.From) λq=>
 Option.bind (ix b a.From) λc=>
 Option.bind (Em N a.Num a.Den) λd=>
 Option.bind (ix b a.From) λs=>
 Option.bind (ix b a.From) λt=>
 Option.bind (ix (upd b a.From (BC (c+(BC (2*d))))) a.To) λu=>
 Option.bind (ix (upd b a.From (BC (c+(BC (2*d))))) a.To) λl=>
 Option.bind (Em N a.BackNum a.BackDen) λm=>
 Option.bind (ix (upd b a.From (BC (c+(BC (2*d))))) a.To) λv=>
 Option.bind (ix (upd b a.From (BC (c+(BC (2*d))))) a.To) λw=>
 g (upd (upd b a.From (BC (c+(BC (2*d))))) a.To (BC (l+(BC (2*m)))))) (
 g b))
def GW (N:Nat) (b:Bool→Option Bool) (a:Bool):Option Bool:=
 b a
def BM (N:Nat) (c:AW) (j:(List Int)→Option Bool):Nat→Int→(List Int)→Option Bool
 |0,_,_=>none
 |k+1,i,b=>
 cond (decide (i<(↑c.Links.length:Int))) (
 Option.bind (ix c.Links i) λa=>
 cond (decide (a.Kind=0)) (
 Option.bind (ix b a.From) λn=>
 Option.bind (ix b a.From) λd=>
 Option.bind (Hm N ([a.Rate,a.Band.Lo,a.Band.Hi]:List (List BO))) λg=>
 Option.bind (ix b a.From) λo=>
 Option.bind (ix b a.From) λp=>
 cond (decide (a.To≠(-1))) (
 Option.bind (ix (upd b a.From (BC (d+g))) a.To) λq=>
 Option.bind (ix (upd b a.From (BC (d+g))) a.To) λl=>
 Option.bind (Em N a.BackNum a.BackDen) λm=>
 Option.bind (ix (upd b a.From (BC (d+g))) a.To) λs=>
 Option.bind (ix (upd b a.From (BC (d+g))) a.To) λt=>
 B1 N i (BM N c j k) (upd (upd b a.From (BC (d+g))) a.To (BC (l+m)))) (
 B1 N i (BM N c j k) (upd b a.From (BC (d+g))))) (
 cond (decide (a.Kind=1)) (
 C5 N b a (B1 N i (BM N c j k)) (decide (a.Kind=1))) (
 cond (decide (a.Kind=5)) (
 GW N (C5 N b a (B1 N i (BM N c j k))) (decide (a.Kind=5))) (
 GW N (C5 N b a (B1 N i (BM N c j k))) (decide (a.Kind=3)))))) (
 j b)
def C3 (N:Nat) (b:List Int) (c:Option Bool):Nat→Int→Option Bool
 |0,_=>none
 |i+1,a=>
 cond (decide (a<(↑b.length:Int))) (
 Option.bind (ix b a) λg=>
 Option.bind (ix b a) λd=>
 cond (decide (1099511627776<d)) (
 some false) (
 C3 N b c i (BC (a+1)))) (
 c)
def EK (N:Nat):Option Bool:=
 some true
def CB (N:Nat) (a:List Int):Option Bool:=
 C3 N a (EK N) N 0
def C6 (N:Nat) (a:AW) (b:List Int):Option Bool:=
 BM N a (CB N) N 0 b
def C4 (N:Nat) (b:AW) (d:(List Int)→Option Bool):Nat→Int→(List Int)→Option Bool
 |0,_,_=>none
 |j+1,a,c=>
 cond (decide (a<(↑b.Places.length:Int))) (
 Option.bind (ix b.Places a) λg=>
 Option.bind (Em N g.Num g.Den) λi=>
 Option.bind (ix c a) λk=>
 Option.bind (ix c a) λl=>
 C4 N b d j (BC (a+1)) (upd c a i)) (
 d c)
def GR (N:Nat) (a:AW):Option Bool:=
 chk (JC (↑a.Places.length:Int) (↑a.Places.length:Int) 8) <|
 C4 N a (C6 N a) N 0 (List.replicate ((↑a.Places.length:Int):Int).toNat (0:Int))
def DD (N:Nat) (a:AW) (c:Option Bool):Nat→Int→Option Bool
 |0,_=>none
 |i+1,b=>
 cond (decide (b<(↑a.Shelters.length:Int))) (
 Option.bind (ix a.Shelters b) λd=>
 Option.bind (B8 N d.Room 0 1073741824) λg=>
 cond (!g) (
 some false) (
 DD N a c i (BC (b+1)))) (
 c)
def Eb (N:Nat):Option Bool:=
 some true
def DF (N:Nat) (a:AW):Option Bool:=
 DD N a (Eb N) N 0
def DE (N:Nat) (a:AW) (d:Option Bool):Nat→Int→Option Bool
 |0,_=>none
 |t+1,c=>
 cond (decide (c<(↑a.Towns.length:Int))) (
 Option.bind (ix a.Towns c) λb=>
 Option.bind (D8 N b.Place (↑a.Places.length:Int)) λg=>
 Option.bind (cond (!g) (some true) (Option.bind (B0 N b.Flood) λi=>
 some (!i))) λj=>
 Option.bind (cond j (some true) (Option.bind (B8 N b.Lead 0 24) λk=>
 some (!k))) λl=>
 Option.bind (cond l (some true) (Option.bind (B8 N b.People 0 1073741824) λm=>
 some (!m))) λn=>
 Option.bind (cond n (some true) (Option.bind (B0 N b.Watch) λo=>
 some (!o))) λp=>
 Option.bind (cond p (some true) (Option.bind (B8 N b.Quorum 0 128) λq=>
 some (!q))) λs=>
 cond s (
 some false) (
 DE N a d t (BC (c+1)))) (
 d)
def Gp (N:Nat) (a:AW):Option Bool:=
 DE N a (DF N a) N 0
def EL (N:Nat):Option Bool:=
 some true
def C7 (N:Nat) (a:AW) (d:Option Bool):Nat→Int→Option Bool
 |0,_=>none
 |o+1,c=>
 cond (decide (c<(↑a.Gauges.length:Int))) (
 Option.bind (ix a.Gauges c) λb=>
 Option.bind (B8 N b.Kind 0 2) λg=>
 Option.bind (cond (!g) (some true) (Option.bind (B8 N b.Err 0 1099511627776) λi=>
 some (!i))) λj=>
 Option.bind (cond j (some true) (Option.bind (B8 N b.Drift 0 1440) λk=>
 some (!k))) λl=>
 cond l (
 some false) (
 Option.bind (ix ([(↑a.Places.length:Int),a.Cells,(↑a.Links.length:Int)]:List Int) b.Kind) λm=>
 Option.bind (D8 N b.Target m) λn=>
 cond (!n) (
 some false) (
 C7 N a d o (BC (c+1))))) (
 d)
def GS (N:Nat) (a:AW):Option Bool:=
 C7 N a (EL N) N 0
def Ec (N:Nat):Option Bool:=
 some true
def DG (N:Nat) (a:AW) (d:Option Bool):Nat→Int→Option Bool
 |0,_=>none
 |u+1,c=>
 cond (decide (c<(↑a.Roads.length:Int))) (
 Option.bind (ix a.Roads c) λb=>
 Option.bind (D8 N b.From (↑a.Towns.length:Int)) λg=>
 Option.bind (cond (!g) (some true) (Option.bind (D8 N b.To (BC ((↑a.Towns.length:Int)+(↑a.Shelters.length:Int)))) λi=>
 some (!i))) λj=>
 Option.bind (cond (j||(decide (b.From=b.To))) (some true) (Option.bind (B8 N b.Hours 1 24) λk=>
 some (!k))) λl=>
 Option.bind (cond l (some true) (Option.bind (B8 N b.Flow 0 1073741824) λm=>
 some (!m))) λn=>
 Option.bind (cond n (some true) (Option.bind (B0 N b.Limit) λo=>
 some (!o))) λp=>
 cond p (
 some false) (
 Option.bind (cond ((decide (b.By=(-1)))&&(decide (b.Limit≠0))) (some true) (Option.bind (cond (decide (b.By≠(-1))) (Option.bind (D8 N b.By (↑a.Places.length:Int)) λq=>
 some (!q)) (some false)) λs=>
 some s)) λt=>
 cond t (
 some false) (
 DG N a d u (BC (c+1))))) (
 d)
def Gq (N:Nat) (a:AW):Option Bool:=
 DG N a (Ec N) N 0
def ID (N:Nat) (a:AW):Option Bool:=
 Option.bind (HH N a) λv=>
 Option.bind (cond v (Option.bind (Hx N a) λb=>
 some b) (some false)) λc=>
 Option.bind (cond c (Option.bind (HT N a) λd=>
 some d) (some false)) λg=>
 Option.bind (cond g (Option.bind (Gr N a) λi=>
 some i) (some false)) λj=>
 Option.bind (cond j (Option.bind (F7 N a) λk=>
 some k) (some false)) λl=>
 Option.bind (cond l (Option.bind (GR N a) λm=>
 some m) (some false)) λn=>
 Option.bind (cond n (Option.bind (Gp N a) λo=>
 some o) (some false)) λp=>
 Option.bind (cond p (Option.bind (GS N a) λq=>
 some q) (some false)) λs=>
 Option.bind (cond s (Option.bind (Gq N a) λt=>
 some t) (some false)) λu=>
 some u
def Fb (N:Nat):Option Bool:=
 some true
def Dj (N:Nat) (a:(List Int)) (c:Option Bool):Nat→Int→Int→Option Bool
 |0,_,_=>none
 |i+1,g,d=>
 cond (decide (d<(↑a.length:Int))) (
 Option.bind (ix a d) λb=>
 cond ((decide (b<0))||(decide ((BC (1125899906842624-g))<b))) (
 some false) (
 Dj N a c i (BC (g+b)) (BC (d+1)))) (
 c)
def HE (N:Nat) (a:(List Int)):Option Bool:=
 Dj N a (Fb N) N 0 0
def Ie (N:Nat) (b:(List Int)) (a:Int):Option Bool:=
 Option.bind (cond (((decide (0≤a))&&(decide (a≤16)))&&(decide ((↑b.length:Int)=a))) (Option.bind (HE N b) λc=>
 some c) (some false)) λd=>
 some d
def Fe (N:Nat) (b:Int) (a:Int):Option Int:=
 cond ((decide (0<a))&&(decide ((BC (9223372036854775807-a))<b))) (
 some 9223372036854775807) (
 cond ((decide (a<0))&&(decide (b<(BC ((-9223372036854775808)-a))))) (
 some (-9223372036854775808)) (
 some (BC (b+a))))
def G3 (N:Nat) (a:Int):Option Int:=
 some a
def Fc (N:Nat) (a:(List Int)) (c:Int→Option Int):Nat→Int→Int→Option Int
 |0,_,_=>none
 |j+1,i,b=>
 cond (decide (b<(↑a.length:Int))) (
 Option.bind (ix a b) λd=>
 Option.bind (Fe N i d) λg=>
 Fc N a c j g (BC (b+1))) (
 c i)
def Db (N:Nat) (a:(List Int)):Option Int:=
 Fc N a (G3 N) N 0 0
def FU (N:Nat) (b:Int) (a:Int):Option Bool:=
 some ((decide (0≤b))&&(decide (b<a)))
def E2 (N:Nat) (b:AW) (a:Ak) (j:Int→Option (Int×Bool)):Nat→Int→Int→Option (Int×Bool)
 |0,_,_=>none
 |o+1,g,i=>
 cond (decide (i<(↑a.Queue.length:Int))) (
 Option.bind (ix a.Queue i) λd=>
 Option.bind (cond (decide (d.At<a.Hour)) (some true) (Option.bind (FU N d.To (↑b.Places.length:Int)) λk=>
 some (!k))) λl=>
 Option.bind (cond l (some true) (Option.bind (Ie N d.Part (↑b.Owners.length:Int)) λm=>
 some (!m))) λn=>
 cond n (
 some (0,false)) (
 Option.bind (Db N d.Part) λc=>
 cond ((decide (c≤0))||(decide (1125899906842624<(BC (g+c))))) (
 some (0,false)) (
 E2 N b a j o (BC (g+c)) (BC (i+1))))) (
 j g)
def Ge (N:Nat) (a:Int):Option (Int×Bool):=
 some (a,true)
def EC (N:Nat) (a:AW) (b:Ak) (c:Int):Option (Int×Bool):=
 E2 N a b (Ge N) N c 0
def EB (N:Nat) (b:AW) (a:Ak) (g:Int→Option (Int×Bool)):Nat→Int→Int→Option (Int×Bool)
 |0,_,_=>none
 |l+1,c,d=>
 cond (decide (d<(↑a.Own.length:Int))) (
 Option.bind (ix a.Own d) λi=>
 Option.bind (Ie N i (↑b.Owners.length:Int)) λk=>
 cond (!k) (
 some (0,false)) (
 Option.bind (Db N i) λj=>
 cond (decide (1125899906842624<(BC (c+j)))) (
 some (0,false)) (
 EB N b a g l (BC (c+j)) (BC (d+1))))) (
 g c)
def Iq (N:Nat) (a:AW) (b:Ak):Option (Int×Bool):=
 EB N a b (EC N a b) N 0 0
def GE (N:Nat) (a:Int):Option (Int×Bool):=
 some (a,true)
def EU (N:Nat) (b:(List Int)) (a:Int) (g:Int→Option (Int×Bool)):Nat→Int→Int→Option (Int×Bool)
 |0,_,_=>none
 |j+1,i,c=>
 cond (decide (c<(↑b.length:Int))) (
 Option.bind (ix b c) λd=>
 cond ((decide (d<0))||(decide ((BC (a-i))<d))) (
 some (0,false)) (
 EU N b a g j (BC (i+d)) (BC (c+1)))) (
 g i)
def Ha (N:Nat) (b:(List Int)) (a:Int):Option (Int×Bool):=
 EU N b a (GE N) N 0 0
def Et (N:Nat) (d:AW) (g:Ak) (i:Option Bool):Nat→Int→Option Bool
 |0,_=>none
 |j+1,b=>
 cond (decide (b<(↑d.Links.length:Int))) (
 Option.bind (ix d.Links b) λc=>
 Option.bind (ix g.Gates b) λa=>
 cond ((((decide (a.Pos<0))||(decide (c.Positions<a.Pos)))||(decide (a.Target<0)))||(decide (c.Positions<a.Target))) (
 some false) (
 cond ((a.Open&&(decide (c.Kind≠5)))&&(decide (c.Kind≠3))) (
 some false) (
 Et N d g i j (BC (b+1))))) (
 i)
def Ev (N:Nat) (d:AW) (a:Ak):Option Bool:=
 Option.bind (Iq N d a) λb=>
 cond (!b.2) (
 some false) (
 Option.bind (Ha N a.In 1152921504606846976) λc=>
 cond (!c.2) (
 some false) (
 Option.bind (Ha N a.Out (BC ((BC (c.1+1125899906842624))-b.1))) λg=>
 some g.2))
def Ew (N:Nat) (a:AW) (b:Ak):Option Bool:=
 Et N a b (Ev N a b) N 0
def Eu (N:Nat) (a:AW) (b:Ak) (d:Option Bool):Nat→Int→Option Bool
 |0,_=>none
 |l+1,c=>
 cond (decide (c<(↑a.Places.length:Int))) (
 Option.bind (ix a.Places c) λk=>
 Option.bind (ix b.Rem c) λg=>
 Option.bind (cond (decide (g<0)) (some true) (Option.bind (ix b.Rem c) λi=>
 some (decide ((max 0 (BC (k.Den-1)))<i)))) λj=>
 cond j (
 some false) (
 Eu N a b d l (BC (c+1)))) (
 d)
def Hu (N:Nat) (b:AW) (a:Ak):Option Bool:=
 cond (((((((decide (a.Hour<0))||(decide (16777216<a.Hour)))||(decide ((↑a.Own.length:Int)≠(↑b.Places.length:Int))))||(decide ((↑a.Rem.length:Int)≠(↑b.Places.length:Int))))||(decide ((↑a.Gates.length:Int)≠(↑b.Links.length:Int))))||(decide ((↑a.In.length:Int)≠(↑b.Owners.length:Int))))||(decide ((↑a.Out.length:Int)≠(↑b.Owners.length:Int)))) (
 some false) (
 Eu N b a (Ew N b a) N 0)
def Bz (N:Nat) (a:(List Au)):Option (List Au):=
 chk (KN (([]:List Au).length+a.length) 24) <|
 some (([]:List Au)++a)
def EE (N:Nat) (a:Ak) (d:List (List Int)):Option Ak:=
 Option.bind (CA N a.Rem) λg=>
 Option.bind (Bz N a.Gates) λi=>
 Option.bind (CA N a.In) λb=>
 Option.bind (CA N a.Out) λc=>
 some (⟨a.Hour,d,g,a.Queue,i,b,c⟩:Ak)
def ED (N:Nat) (b:Ak) (d:(List (List Int))→Option Ak):Nat→Int→(List (List Int))→Option Ak
 |0,_,_=>none
 |j+1,a,c=>
 cond (decide (a<(↑b.Own.length:Int))) (
 Option.bind (ix b.Own a) λg=>
 Option.bind (CA N g) λi=>
 Option.bind (ix c a) λk=>
 Option.bind (ix c a) λl=>
 ED N b d j (BC (a+1)) (upd c a i)) (
 d c)
def Ir (N:Nat) (a:Ak):Option Ak:=
 chk (JC (↑a.Own.length:Int) (↑a.Own.length:Int) 24) <|
 ED N a (EE N a) N 0 (List.replicate ((↑a.Own.length:Int):Int).toNat ([]:(List Int)))
def Fd (N:Nat) (a:Au) (b:Bool) (c:Bool):Option Au:=
 some (⟨a.Pos,a.Target,b,c⟩:Au)
def G4 (N:Nat) (d:Ay) (a:Au) (b:Int) (c:Bool→Bool→Option Au) (g:Bool):Option Au:=
 cond g (
 cond (decide (d.Kind=5)) (
 c a.Stuck (decide (b=2))) (
 c a.Stuck a.Open)) (
 c a.Stuck a.Open)
def Hv (N:Nat) (c:Ay) (b:Au) (a:Int):Option Au:=
 cond (decide (a=0)) (
 Fd N b true b.Open) (
 cond (decide (a=1)) (
 Fd N b false b.Open) (
 cond (decide (a=2)) (
 G4 N c b a (Fd N b) (decide (a=2))) (
 G4 N c b a (Fd N b) (decide (a=3)))))
def Ga (N:Nat) (c:Int) (b:Int) (a:Int):Option Int:=
 cond (decide (c<b)) (
 some b) (
 cond (decide (a<c)) (
 some a) (
 some c))
def Jo (N:Nat) (a:Au) (b:Int):Option Au:=
 some ({ a with Target:=b}:Au)
def I7 (N:Nat) (c:Ay) (b:Au) (a:Int):Option Au:=
 cond (decide (c.Positions≠0)) (
 Option.bind (Ga N a 0 c.Positions) λd=>
 Jo N b d) (
 Jo N b b.Target)
def GZ (N:Nat) (b:Int) (a:Int):Option Int:=
 cond ((decide (a<0))&&(decide ((BC (9223372036854775807+a))<b))) (
 some 9223372036854775807) (
 cond ((decide (0<a))&&(decide (b<(BC ((-9223372036854775808)+a))))) (
 some (-9223372036854775808)) (
 some (BC (b-a))))
def IS (N:Nat) (b:Ay) (a:Au):Option Au:=
 cond a.Stuck (
 some a) (
 Option.bind (GZ N a.Target a.Pos) λc=>
 Option.bind (GZ N 0 b.Speed) λd=>
 Option.bind (Ga N c d b.Speed) λg=>
 Option.bind (Fe N a.Pos g) λi=>
 some ({ a with Pos:=i}:Au))
def Fx (N:Nat) (a:Int) (b:Int→(List Au)→Option (List Au)) (c:List Au):Option (List Au):=
 b (BC (a+1)) c
def CM (N:Nat) (p0_w:Aj) (g:(List Au)→Option (List Au)):Nat→Int→(List Au)→Option (List Au)
 |0,_,_=>none
 |m+1,d,c=>
 cond (decide (d<(↑p0_w.in_.Cmds.length:Int))) (
 Option.bind (ix p0_w.in_.Cmds d) λa=>
 Option.bind (FU N a.Link (↑p0_w.b.Links.length:Int)) λi=>
 cond i (
 Option.bind (ix p0_w.b.Links a.Link) λj=>
 Option.bind (ix c a.Link) λn=>
 Option.bind (ix c a.Link) λk=>
 Option.bind (I7 N j k a.Target) λl=>
 Option.bind (ix c a.Link) λo=>
 Option.bind (ix c a.Link) λp=>
 Fx N d (CM N p0_w g m) (upd c a.Link l)) (
 Fx N d (CM N p0_w g m) c)) (
 g c)
def DU (N:Nat) (p0_w:Aj):Nat→Int→(List Au)→Option (List Au)
 |0,_,_=>none
 |m+1,a,c=>
 cond (decide (a<(↑p0_w.b.Links.length:Int))) (
 Option.bind (ix p0_w.b.Links a) λd=>
 Option.bind (ix c a) λj=>
 Option.bind (ix c a) λg=>
 Option.bind (IS N d g) λi=>
 Option.bind (ix c a) λk=>
 Option.bind (ix c a) λl=>
 DU N p0_w m (BC (a+1)) (upd c a i)) (
 some c)
def Ca (N:Nat) (p0_w:Aj) (a:List Au):Option (List Au):=
 DU N p0_w N 0 a
def Cb (N:Nat) (p0_w:Aj) (a:List Au):Option (List Au):=
 CM N p0_w (Ca N p0_w) N 0 a
def Fy (N:Nat) (c:Int) (a:Int→(List Au)→Option (List Au)) (b:List Au):Option (List Au):=
 a (BC (c+1)) b
def CN (N:Nat) (p0_w:Aj) (c:(List Au)→Option (List Au)):Nat→Int→(List Au)→Option (List Au)
 |0,_,_=>none
 |m+1,g,d=>
 cond (decide (g<(↑p0_w.in_.Faults.length:Int))) (
 Option.bind (ix p0_w.in_.Faults g) λa=>
 Option.bind (FU N a.Link (↑p0_w.b.Links.length:Int)) λi=>
 cond i (
 Option.bind (ix p0_w.b.Links a.Link) λj=>
 Option.bind (ix d a.Link) λn=>
 Option.bind (ix d a.Link) λk=>
 Option.bind (Hv N j k a.Kind) λl=>
 Option.bind (ix d a.Link) λo=>
 Option.bind (ix d a.Link) λp=>
 Fy N g (CN N p0_w c m) (upd d a.Link l)) (
 Fy N g (CN N p0_w c m) d)) (
 c d)
def GF (N:Nat) (p0_w:Aj):Option (List Au):=
 CN N p0_w (Cb N p0_w) N 0 p0_w.s.Gates
def I6 (N:Nat) (b:(List Int)) (a:Int):Option Int:=
 Option.bind (cond ((decide (a<0))||(decide ((↑b.length:Int)≤a))) (some true) (Option.bind (ix b a) λd=>
 some (decide (d<0)))) λg=>
 cond g (
 some 0) (
 Option.bind (ix b a) λc=>
 some c)
def JJ (N:Nat) (a:List Int):Option (List Int):=
 some a
def J0 (N:Nat) (a:(List Int)) (b:Int) (c:Int) (d:Int):Option (List Int):=
 chk (JC (↑a.length:Int) (↑a.length:Int) 8) <|
 Option.bind (I6 N a b) λg=>
 cond ((((decide (0<(min d g)))&&(decide (0≤c)))&&(decide (c<(↑a.length:Int))))&&(decide (b≠c))) (
 Option.bind (ix (Ms (List.replicate ((↑a.length:Int):Int).toNat (0:Int)) a) b) λl=>
 Option.bind (ix (Ms (List.replicate ((↑a.length:Int):Int).toNat (0:Int)) a) b) λi=>
 Option.bind (ix (Ms (List.replicate ((↑a.length:Int):Int).toNat (0:Int)) a) b) λm=>
 Option.bind (ix (Ms (List.replicate ((↑a.length:Int):Int).toNat (0:Int)) a) b) λn=>
 Option.bind (ix (upd (Ms (List.replicate ((↑a.length:Int):Int).toNat (0:Int)) a) b (BC (i-(min d g)))) c) λo=>
 Option.bind (ix (upd (Ms (List.replicate ((↑a.length:Int):Int).toNat (0:Int)) a) b (BC (i-(min d g)))) c) λj=>
 Option.bind (Fe N j (min d g)) λk=>
 Option.bind (ix (upd (Ms (List.replicate ((↑a.length:Int):Int).toNat (0:Int)) a) b (BC (i-(min d g)))) c) λp=>
 Option.bind (ix (upd (Ms (List.replicate ((↑a.length:Int):Int).toNat (0:Int)) a) b (BC (i-(min d g)))) c) λq=>
 JJ N (upd (upd (Ms (List.replicate ((↑a.length:Int):Int).toNat (0:Int)) a) b (BC (i-(min d g)))) c k)) (
 JJ N (Ms (List.replicate ((↑a.length:Int):Int).toNat (0:Int)) a))
def E4 (N:Nat) (c:Int) (a:Int→(List (List Int))→Option (List (List Int))) (b:List (List Int)):Option (List (List Int)):=
 a (BC (c+1)) b
def Bs (N:Nat) (p0_w:Aj):Nat→Int→(List (List Int))→Option (List (List Int))
 |0,_,_=>none
 |o+1,d,c=>
 cond (decide (d<(↑p0_w.in_.Swaps.length:Int))) (
 Option.bind (ix p0_w.in_.Swaps d) λa=>
 Option.bind (FU N a.Place (↑p0_w.b.Places.length:Int)) λg=>
 Option.bind (cond g (Option.bind (FU N a.From (↑p0_w.b.Owners.length:Int)) λi=>
 some i) (some false)) λj=>
 Option.bind (cond j (Option.bind (FU N a.To (↑p0_w.b.Owners.length:Int)) λk=>
 some k) (some false)) λl=>
 cond l (
 Option.bind (ix c a.Place) λq=>
 Option.bind (ix c a.Place) λm=>
 Option.bind (J0 N m a.From a.To a.Litres) λn=>
 Option.bind (ix c a.Place) λs=>
 Option.bind (ix c a.Place) λp=>
 E4 N d (Bs N p0_w o) (upd c a.Place n)) (
 E4 N d (Bs N p0_w o) c)) (
 some c)
def DQ (N:Nat) (p0_w:Aj):Option (List (List Int)):=
 Bs N p0_w N 0 p0_w.s.Own
def DJ (N:Nat) (p0_w:Aj) (b:Int→Option ((List (List Int))×(List Int)×(List Ae))):Nat→Int→Int→Option ((List (List Int))×(List Int)×(List Ae))
 |0,_,_=>none
 |i+1,c,a=>
 cond (decide (a<(↑p0_w.s.Queue.length:Int))) (
 Option.bind (ix p0_w.s.Queue a) λd=>
 Option.bind (Db N d.Part) λg=>
 DJ N p0_w b i (BC (c+g)) (BC (a+1))) (
 b c)
def FY (N:Nat) (p0_w:Aj) (k:Int) (l:Int) (d:Int) (i:List Ae) (g:List (List Int)) (c:List Int) (m:Int→Int→(List Ae)→(List (List Int))→(List Int)→Option ((List (List Int))×(List Int)×(List Ae))) (a:Int):Option ((List (List Int))×(List Int)×(List Ae)):=
 cond (decide (a≤0)) (
 m k l i g c) (
 Option.bind (ix g d) λp=>
 Option.bind (ix g d) λj=>
 Option.bind (ix j 0) λn=>
 Option.bind (ix j 0) λq=>
 Option.bind (ix c 0) λt=>
 Option.bind (ix c 0) λo=>
 Option.bind (ix c 0) λu=>
 Option.bind (ix c 0) λv=>
 chk (JC (↑p0_w.b.Owners.length:Int) (↑p0_w.b.Owners.length:Int) 8) <|
 Option.bind (ix (List.replicate ((↑p0_w.b.Owners.length:Int):Int).toNat (0:Int)) 0) λw=>
 Option.bind (ix (List.replicate ((↑p0_w.b.Owners.length:Int):Int).toNat (0:Int)) 0) λx=>
 chk (KN (i.length+([(⟨p0_w.s.Hour,(-1),d,(-4),(upd (List.replicate ((↑p0_w.b.Owners.length:Int):Int).toNat (0:Int)) 0 a)⟩:Ae)]:List Ae).length) 56) <|
 m (BC (k+a)) (BC (l+a)) (i++([(⟨p0_w.s.Hour,(-1),d,(-4),(upd (List.replicate ((↑p0_w.b.Owners.length:Int):Int).toNat (0:Int)) 0 a)⟩:Ae)]:List Ae)) (upd g d (upd j 0 (BC (n+a)))) (upd c 0 (BC (o+a))))
def ES (N:Nat) (a:Int) (j:Int→Int→Int→(List Ae)→(List (List Int))→(List Int)→Option ((List (List Int))×(List Int)×(List Ae))) (b:Int) (c:Int) (d:List Ae) (g:List (List Int)) (i:List Int):Option ((List (List Int))×(List Int)×(List Ae)):=
 j b c (BC (a+1)) d g i
def CD (N:Nat) (p0_w:Aj):Nat→Int→Int→Int→(List Ae)→(List (List Int))→(List Int)→Option ((List (List Int))×(List Int)×(List Ae))
 |0,_,_,_,_,_,_=>none
 |l+1,c,d,a,g,i,j=>
 cond (decide (a<(↑p0_w.b.Places.length:Int))) (
 cond (decide (a<(↑p0_w.in_.Rain.length:Int))) (
 Option.bind (ix p0_w.in_.Rain a) λk=>
 FY N p0_w c d a g i j (ES N a (CD N p0_w l)) (min (min k (BC (1125899906842624-c))) (BC (1152921504606846976-d)))) (
 FY N p0_w c d a g i j (ES N a (CD N p0_w l)) 0)) (
 some (i,j,g))
def DL (N:Nat) (p0_w:Aj) (a:Int):Option ((List (List Int))×(List Int)×(List Ae)):=
 Option.bind (Db N p0_w.s.In) λb=>
 CD N p0_w N a b 0 p0_w.moves p0_w.s.Own p0_w.s.In
def DM (N:Nat) (p0_w:Aj) (a:Int):Option ((List (List Int))×(List Int)×(List Ae)):=
 DJ N p0_w (DL N p0_w) N a 0
def DK (N:Nat) (p0_w:Aj) (b:Int→Option ((List (List Int))×(List Int)×(List Ae))):Nat→Int→Int→Option ((List (List Int))×(List Int)×(List Ae))
 |0,_,_=>none
 |i+1,g,a=>
 cond (decide (a<(↑p0_w.s.Own.length:Int))) (
 Option.bind (ix p0_w.s.Own a) λj=>
 Option.bind (ix p0_w.s.Own a) λc=>
 Option.bind (Db N c) λd=>
 DK N p0_w b i (BC (g+d)) (BC (a+1))) (
 b g)
def Hb (N:Nat) (p0_w:Aj):Option ((List (List Int))×(List Int)×(List Ae)):=
 DK N p0_w (DM N p0_w) N 0 0
def GX (N:Nat) (a:List Int):Option (List Int):=
 some a
def Ej (N:Nat) (c:(List Int)) (d:(List Int)→Option (List Int)):Nat→Int→(List Int)→Option (List Int)
 |0,_,_=>none
 |k+1,a,b=>
 cond (decide (a<(↑c.length:Int))) (
 Option.bind (ix c a) λg=>
 Option.bind (ix b a) λl=>
 Option.bind (ix b a) λi=>
 Option.bind (Fe N i g) λj=>
 Option.bind (ix b a) λm=>
 Option.bind (ix b a) λn=>
 Ej N c d k (BC (a+1)) (upd b a j)) (
 d b)
def Fl (N:Nat) (a:(List Int)) (b:(List Int)):Option (List Int):=
 chk (JC (max (↑a.length:Int) (↑b.length:Int)) (max (↑a.length:Int) (↑b.length:Int)) 8) <|
 Ej N b (GX N) N 0 (Ms (List.replicate ((max (↑a.length:Int) (↑b.length:Int)):Int).toNat (0:Int)) a)
def IQ (N:Nat) (a:Int) (b:(List Ao)→Int→(List (List Int))→Option ((List (List Int))×(List Ao))) (c:List Ao) (d:List (List Int)):Option ((List (List Int))×(List Ao)):=
 b c (BC (a+1)) d
def Ei (N:Nat) (d:(List Ao)) (b:Int) (n:Int) (k:(List Ao)→(List (List Int))→Option ((List (List Int))×(List Ao))):Nat→(List Ao)→Int→(List (List Int))→Option ((List (List Int))×(List Ao))
 |0,_,_,_=>none
 |o+1,g,i,c=>
 cond (decide (i<(↑d.length:Int))) (
 Option.bind (ix d i) λa=>
 cond (((decide (a.At≤b))&&(decide (0≤a.To)))&&(decide (a.To<n))) (
 Option.bind (ix c a.To) λp=>
 Option.bind (ix c a.To) λl=>
 Option.bind (Fl N l a.Part) λm=>
 Option.bind (ix c a.To) λq=>
 Option.bind (ix c a.To) λs=>
 IQ N i (Ei N d b n k o) g (upd c a.To m)) (
 Option.bind (CA N a.Part) λj=>
 chk (KN (g.length+([({ a with Part:=j}:Ao)]:List Ao).length) 40) <|
 IQ N i (Ei N d b n k o) (g++([({ a with Part:=j}:Ao)]:List Ao)) c)) (
 k g c)
def Gm (N:Nat) (a:List Ao) (b:List (List Int)):Option ((List (List Int))×(List Ao)):=
 some (b,a)
def FW (N:Nat) (b:(List Ao)) (a:Int) (d:Int) (c:List (List Int)):Option ((List (List Int))×(List Ao)):=
 Ei N b a d (Gm N) N ([]:List Ao) 0 c
def FV (N:Nat) (g:Int) (d:Int) (c:(List (List Int))→Option ((List (List Int))×(List Ao))):Nat→Int→(List (List Int))→Option ((List (List Int))×(List Ao))
 |0,_,_=>none
 |i+1,a,b=>
 cond (decide (a<(↑(List.replicate (g:Int).toNat ([]:(List Int))).length:Int))) (
 chk (JC d d 8) <|
 Option.bind (ix b a) λj=>
 Option.bind (ix b a) λk=>
 FV N g d c i (BC (a+1)) (upd b a (List.replicate (d:Int).toNat (0:Int)))) (
 c b)
def Jy (N:Nat) (d:(List Ao)) (c:Int) (a:Int) (b:Int):Option ((List (List Int))×(List Ao)):=
 Option.bind (Ga N a 0 64) λg=>
 Option.bind (Ga N b 0 16) λi=>
 chk (JC g g 24) <|
 FV N g i (FW N d c g) N 0 (List.replicate (g:Int).toNat ([]:(List Int)))
def He (N:Nat) (a:Au) (b:Bool):Option Au:=
 some ({ a with Open:=b}:Au)
def HK (N:Nat) (b:Ay) (a:Au) (c:Int):Option Au:=
 cond (decide (b.Kind≠3)) (
 some a) (
 cond (decide (b.Prime≤c)) (
 He N a true) (
 cond (decide (c≤b.Break)) (
 He N a false) (
 He N a a.Open)))
def E7 (N:Nat) (a:Int) (c:Int→(List Au)→Option ((List (List Int))×(List Ao)×(List Au)×(List Int))) (b:List Au):Option ((List (List Int))×(List Ao)×(List Au)×(List Int)):=
 c (BC (a+1)) b
def CH (N:Nat) (p0_w:Aj) (j:(List (List Int))×(List Ao)) (i:List (List Int)) (d:List Int):Nat→Int→(List Au)→Option ((List (List Int))×(List Ao)×(List Au)×(List Int))
 |0,_,_=>none
 |n+1,a,c=>
 cond (decide (a<(↑p0_w.b.Links.length:Int))) (
 Option.bind (ix p0_w.b.Links a) λg=>
 cond (decide (g.Kind=3)) (
 Option.bind (ix c a) λo=>
 Option.bind (ix c a) λk=>
 Option.bind (ix d g.From) λp=>
 Option.bind (ix d g.From) λl=>
 Option.bind (HK N g k l) λm=>
 Option.bind (ix c a) λq=>
 Option.bind (ix c a) λs=>
 E7 N a (CH N p0_w j i d n) (upd c a m)) (
 E7 N a (CH N p0_w j i d n) c)) (
 some (i,j.2,c,d))
def CR (N:Nat) (p0_w:Aj) (c:(List (List Int))×(List Ao)) (a:List (List Int)) (b:List Int):Option ((List (List Int))×(List Ao)×(List Au)×(List Int)):=
 CH N p0_w c a b N 0 p0_w.s.Gates
def CQ (N:Nat) (p0_w:Aj) (i:(List (List Int))×(List Ao)) (j:(List (List Int))→(List Int)→Option ((List (List Int))×(List Ao)×(List Au)×(List Int))):Nat→Int→(List (List Int))→(List Int)→Option ((List (List Int))×(List Ao)×(List Au)×(List Int))
 |0,_,_,_=>none
 |w+1,a,c,d=>
 cond (decide (a<(↑p0_w.b.Places.length:Int))) (
 Option.bind (ix c a) λo=>
 Option.bind (ix c a) λk=>
 Option.bind (ix i.1 a) λp=>
 Option.bind (ix i.1 a) λl=>
 Option.bind (Fl N k l) λg=>
 Option.bind (ix c a) λq=>
 Option.bind (ix c a) λs=>
 Option.bind (ix (upd c a g) a) λt=>
 Option.bind (ix (upd c a g) a) λm=>
 Option.bind (Db N m) λn=>
 Option.bind (ix d a) λu=>
 Option.bind (ix d a) λv=>
 CQ N p0_w i j w (BC (a+1)) (upd c a g) (upd d a n)) (
 j c d)
def E8 (N:Nat) (p0_w:Aj):Option ((List (List Int))×(List Ao)×(List Au)×(List Int)):=
 Option.bind (Jy N p0_w.s.Queue p0_w.s.Hour (↑p0_w.b.Places.length:Int) (↑p0_w.b.Owners.length:Int)) λa=>
 CQ N p0_w a (CR N p0_w a) N 0 p0_w.s.Own p0_w.peaks
def GG (N:Nat) (a:List Int):Option (List Int):=
 some a
def EX (N:Nat) (a:(List Int)) (d:(List Int)→Option (List Int)):Nat→Int→(List Int)→Option (List Int)
 |0,_,_=>none
 |j+1,b,c=>
 cond (decide (b<(↑a.length:Int))) (
 Option.bind (ix a b) λg=>
 Option.bind (ix c b) λk=>
 Option.bind (ix c b) λi=>
 Option.bind (ix c b) λl=>
 Option.bind (ix c b) λm=>
 EX N a d j (BC (b+1)) (upd c b (BC (i-g)))) (
 d c)
def Gn (N:Nat) (a:(List Int)) (b:(List Int)):Option (List Int):=
 chk (JC (↑a.length:Int) (↑a.length:Int) 8) <|
 EX N b (GG N) N 0 (Ms (List.replicate ((↑a.length:Int):Int).toNat (0:Int)) a)
def Hg (N:Nat) (a:(List Int)) (b:List Int):Option ((List Int)×(List Int)):=
 Option.bind (Gn N a b) λc=>
 some (b,c)
def J1 (N:Nat) (b:(List Int)) (a:Int) (c:Int):Option ((List Int)×(List Int)):=
 chk (JC (↑b.length:Int) (↑b.length:Int) 8) <|
 Option.bind (I6 N b a) λd=>
 cond (decide (0<(min c d))) (
 Option.bind (ix (List.replicate ((↑b.length:Int):Int).toNat (0:Int)) a) λg=>
 Option.bind (ix (List.replicate ((↑b.length:Int):Int).toNat (0:Int)) a) λi=>
 Hg N b (upd (List.replicate ((↑b.length:Int):Int).toNat (0:Int)) a (min c d))) (
 Hg N b (List.replicate ((↑b.length:Int):Int).toNat (0:Int)))
def Cu (N:Nat) (c1_:Fj) (a:(List Int)):Option ((List Int)×(List Int)):=
 Option.bind (J1 N a c1_.Owner c1_.Litres) λb=>
 some (b.1,b.2)
def CZ (N:Nat) (a:List AK):Option (List AK):=
 some a
def E3 (N:Nat) (a:Int) (b:(List AK)→Int→Option (List AK)) (c:List AK):Option (List AK):=
 b c (BC (a+1))
def Br (N:Nat) (p0_w:Aj) (a:Int) (g:(List AK)→Option (List AK)):Nat→(List AK)→Int→Option (List AK)
 |0,_,_=>none
 |j+1,i,d=>
 cond (decide (d<(↑p0_w.in_.Takes.length:Int))) (
 Option.bind (ix p0_w.in_.Takes d) λc=>
 Option.bind (cond (decide (c.Place≠a)) (some true) (Option.bind (FU N c.Owner (↑p0_w.b.Owners.length:Int)) λk=>
 some (!k))) λl=>
 cond (l||(decide (c.Litres≤0))) (
 E3 N d (Br N p0_w a g j) i) (
 Option.bind (cond (decide (c.To≠(-1))) (Option.bind (FU N c.To (↑p0_w.b.Places.length:Int)) λm=>
 Option.bind (cond (!m) (some true) (Option.bind (ix p0_w.b.Places c.To) λn=>
 Option.bind (ix p0_w.b.Places a) λo=>
 some (decide (n.Office≠o.Office)))) λp=>
 some p) (some false)) λq=>
 cond q (
 E3 N d (Br N p0_w a g j) i) (
 chk (KN (i.length+1) 32) <|
 E3 N d (Br N p0_w a g j) (i++([(⟨c.To,0,(-3),(λx=>Cu N c x)⟩:AK)]:List AK))))) (
 g i)
def HB (N:Nat) (p0_w:Aj) (a:Int):Option (List AK):=
 Br N p0_w a (CZ N) N ([]:List AK) 0
def GY (N:Nat) (c:Int) (a:Int) (b:Int):Option Int:=
 Option.bind (Ek N c a b) λd=>
 cond (!d.2.2) (
 some 0) (
 some d.1)
def J2 (N:Nat) (b:Ay) (a:Int) (c:Int):Option Int:=
 cond (decide (b.To=(-1))) (
 some a) (
 Option.bind (GY N c b.BackNum b.BackDen) λd=>
 Option.bind (GZ N a d) λg=>
 some (max 0 g))
def Kl (N:Nat) (a:(List BO)) (b:Int):Option Int:=
 Option.bind (El N a) λc=>
 cond (!c) (
 some 0) (
 Option.bind (HL N a b) λd=>
 some d.1)
def Hj (N:Nat):Option Int:=
 some 0
def Hh (N:Nat) (a:Ay) (b:Int):Option Int:=
 Option.bind (GZ N b a.Crest) λd=>
 Option.bind (GY N (max 0 d) a.Num a.Den) λc=>
 some c
def JN (N:Nat) (a:Bool) (b:Option Int):Option Int:=
 cond (!a) (
 some 0) (
 b)
def JM (N:Nat) (c:Ay) (a:Bool) (b:Int) (d:Option Int):Option Int:=
 cond a (
 Option.bind (GY N b c.Num c.Den) λg=>
 some g) (
 d)
def JL (N:Nat) (b:Ay) (a:Int):Option Int:=
 Option.bind (GY N b.Num a b.Positions) λc=>
 some c
def JK (N:Nat) (a:Ay) (c:Int) (g:(List BO)) (b:Int) (d:Int):Option Int:=
 Option.bind (J2 N a b d) λi=>
 Option.bind (Kl N g i) λj=>
 Option.bind (GY N j c a.Positions) λk=>
 Option.bind (Fe N k a.Leak) λl=>
 some l
def J3 (N:Nat) (a:Ay) (d:Int) (c:Bool) (i:(List BO)) (b:Int) (g:Int):Option Int:=
 cond (decide (a.Kind=0)) (
 JK N a d i b g) (
 cond (decide (a.Kind=2)) (
 JL N a d) (
 cond (decide (a.Kind=3)) (
 JM N a c b (Hj N)) (
 cond (decide (a.Kind=5)) (
 JN N c (Hh N a b)) (
 cond (decide (a.Kind=1)) (
 Hh N a b) (
 Hj N)))))
def Kk (N:Nat) (b:Ay) (c:Au) (a:Int) (d:Int):Option Int:=
 Option.bind (J3 N b c.Pos c.Open b.Rate a d) λg=>
 some g
def Fs (N:Nat) (a:Int):Option Int:=
 some a
def EG (N:Nat) (c:Int) (a:(List Int)) (n:Int) (k:Int→(List Int)→(List Int)→(List Int)→Option ((List Int)×Bool)):Nat→Int→Int→(List Int)→(List Int)→(List Int)→Option ((List Int)×Bool)
 |0,_,_,_,_,_=>none
 |v+1,l,b,g,i,j=>
 cond (decide (b<(↑a.length:Int))) (
 Option.bind (ix a b) λm=>
 Option.bind (Ek N c m n) λd=>
 Option.bind (ix j b) λo=>
 Option.bind (ix j b) λp=>
 Option.bind (ix i b) λq=>
 Option.bind (ix i b) λs=>
 Option.bind (ix g b) λt=>
 Option.bind (ix g b) λu=>
 EG N c a n k v (BC (l-d.1)) (BC (b+1)) (upd g b b) (upd i b d.2.1) (upd j b d.1)) (
 k l g i j)
def EF (N:Nat) (c:List Int) (g:(List Int)→Option ((List Int)×Bool)):Nat→Int→(List Int)→Option ((List Int)×Bool)
 |0,_,_=>none
 |m+1,d,a=>
 cond (decide (d<(↑c.length:Int))) (
 Option.bind (ix c d) λb=>
 Option.bind (ix a b) λj=>
 Option.bind (ix a b) λi=>
 Option.bind (ix a b) λk=>
 Option.bind (ix a b) λl=>
 EF N c g m (BC (d+1)) (upd a b (BC (i+1)))) (
 g a)
def Fm (N:Nat) (a:List Int):Option ((List Int)×Bool):=
 some (a,true)
def EI (N:Nat) (c:Int) (d:List Int) (g:List Int) (i:List Int):Option ((List Int)×Bool):=
 Option.bind (PZ d g) λa=>
 Option.bind (iT a c) λb=>
 EF N b (Fm N) N 0 i
def EJ (N:Nat) (b:Int) (a:(List Int)) (c:Int):Option ((List Int)×Bool):=
 cond ((decide (b<0))||(decide (c<b))) (
 some (([]:List Int),false)) (
 chk (JC (↑a.length:Int) (↑a.length:Int) 8) <|
 cond (decide (c=0)) (
 some ((List.replicate ((↑a.length:Int):Int).toNat (0:Int)),true)) (
 chk (JC (↑a.length:Int) (↑a.length:Int) 8) <|
 chk (JC (↑a.length:Int) (↑a.length:Int) 8) <|
 EG N b a c (EI N) N b 0 (List.replicate ((↑a.length:Int):Int).toNat (0:Int)) (List.replicate ((↑a.length:Int):Int).toNat (0:Int)) (List.replicate ((↑a.length:Int):Int).toNat (0:Int))))
def EH (N:Nat) (a:(List Int)) (g:Int→Option ((List Int)×Bool)):Nat→Int→Int→Option ((List Int)×Bool)
 |0,_,_=>none
 |i+1,b,c=>
 cond (decide (c<(↑a.length:Int))) (
 Option.bind (ix a c) λd=>
 cond ((decide (d<0))||(decide ((BC (1125899906842624-b))<d))) (
 some (([]:List Int),false)) (
 EH N a g i (BC (b+d)) (BC (c+1)))) (
 g b)
def It (N:Nat) (b:Int) (a:(List Int)):Option ((List Int)×Bool):=
 cond (decide (64<(↑a.length:Int))) (
 some (([]:List Int),false)) (
 EH N a (EJ N b a) N 0 0)
def F6 (N:Nat) (a:(List Int)) (b:List Int):Option ((List Int)×(List Int)):=
 Option.bind (Gn N a b) λc=>
 some (b,c)
def IR (N:Nat) (a:(List Int)→Option ((List Int)×(List Int))) (b:List Int):Option ((List Int)×(List Int)):=
 a b
def Jz (N:Nat) (a:(List Int)) (b:Int):Option ((List Int)×(List Int)):=
 chk (JC (↑a.length:Int) (↑a.length:Int) 8) <|
 Option.bind (cond ((decide (0<b))&&(decide ((↑a.length:Int)≤64))) (Option.bind (HE N a) λd=>
 some d) (some false)) λg=>
 cond g (
 Option.bind (Db N a) λi=>
 Option.bind (It N (min b i) a) λc=>
 cond c.2 (
 IR N (F6 N a) (Ms (List.replicate ((↑a.length:Int):Int).toNat (0:Int)) c.1)) (
 IR N (F6 N a) (List.replicate ((↑a.length:Int):Int).toNat (0:Int)))) (
 F6 N a (List.replicate ((↑a.length:Int):Int).toNat (0:Int)))
def Ab (N:Nat) (c1_:Int) (a:(List Int)):Option ((List Int)×(List Int)):=
 Option.bind (Jz N a c1_) λb=>
 some (b.1,b.2)
def JA (N:Nat) (c:Int) (a:Int) (b:Int):Option Int:=
 Option.bind (Ek N c a b) λd=>
 cond (!d.2.2) (
 some 0) (
 some d.1)
def Je (N:Nat) (a:Ay) (b:Int) (c:Int):Option Int:=
 cond (decide (a.Kind≠4)) (
 some 0) (
 Option.bind (JA N b a.Num a.Den) λd=>
 Option.bind (JA N c a.BackNum a.BackDen) λg=>
 some (BC (d-g)))
def Cc (N:Nat) (a:List AK):Option (List AK):=
 some a
def F5 (N:Nat) (p0_w:Aj) (c:Int) (m:List AK) (b:Int) (a:Ay) (g:(List AK)→Option (List AK)) (i:Int):Option (List AK):=
 Option.bind (ix p0_w.s.Gates b) λn=>
 Option.bind (ix p0_w.s.Gates b) λj=>
 Option.bind (ix p0_w.peaks c) λo=>
 Option.bind (ix p0_w.peaks c) λk=>
 Option.bind (Kk N a j k i) λl=>
 Option.bind (Fs N l) λd=>
 chk (KN (m.length+([(⟨a.To,a.Delay,b,(λx=>Ab N d x)⟩:AK)]:List AK).length) 32) <|
 g (m++([(⟨a.To,a.Delay,b,(λx=>Ab N d x)⟩:AK)]:List AK))
def Cz (N:Nat) (a:Int) (b:(List AK)→Int→Option (List AK)) (c:List AK):Option (List AK):=
 b c (BC (a+1))
def Ba (N:Nat) (p0_w:Aj) (c:Int) (g:(List AK)→Option (List AK)):Nat→(List AK)→Int→Option (List AK)
 |0,_,_=>none
 |l+1,i,d=>
 cond (decide (d<(↑p0_w.b.Links.length:Int))) (
 Option.bind (ix p0_w.b.Links d) λa=>
 cond ((decide (a.From=c))&&(decide (a.Kind≠4))) (
 cond (decide (a.To≠(-1))) (
 Option.bind (ix p0_w.peaks a.To) λA=>
 Option.bind (ix p0_w.peaks a.To) λu=>
 F5 N p0_w c i d a (Cz N d (Ba N p0_w c g l)) u) (
 F5 N p0_w c i d a (Cz N d (Ba N p0_w c g l)) 0)) (
 cond (decide (a.From=c)) (
 Option.bind (ix p0_w.peaks c) λv=>
 Option.bind (ix p0_w.peaks c) λm=>
 Option.bind (ix p0_w.peaks a.To) λw=>
 Option.bind (ix p0_w.peaks a.To) λn=>
 Option.bind (Je N a m n) λo=>
 Option.bind (Fs N o) λj=>
 chk (KN (i.length+([(⟨a.To,a.Delay,d,(λx=>Ab N j x)⟩:AK)]:List AK).length) 32) <|
 Cz N d (Ba N p0_w c g l) (i++([(⟨a.To,a.Delay,d,(λx=>Ab N j x)⟩:AK)]:List AK))) (
 cond ((decide (a.To=c))&&(decide (a.Kind=4))) (
 Option.bind (ix p0_w.peaks a.From) λy=>
 Option.bind (ix p0_w.peaks a.From) λp=>
 Option.bind (ix p0_w.peaks c) λz=>
 Option.bind (ix p0_w.peaks c) λq=>
 Option.bind (Je N a p q) λs=>
 Option.bind (GZ N 0 s) λt=>
 Option.bind (Fs N t) λk=>
 chk (KN (i.length+([(⟨a.From,a.Delay,d,(λx=>Ab N k x)⟩:AK)]:List AK).length) 32) <|
 Cz N d (Ba N p0_w c g l) (i++([(⟨a.From,a.Delay,d,(λx=>Ab N k x)⟩:AK)]:List AK))) (
 Cz N d (Ba N p0_w c g l) i)))) (
 g i)
def HD (N:Nat) (p0_w:Aj) (a:Int):Option (List AK):=
 Ba N p0_w a (Cc N) N ([]:List AK) 0
def Bg (N:Nat) (a:List AK):Option (List AK):=
 some a
def Bt (N:Nat) (a:Int):Option (List AK):=
 cond (decide (a<0)) (
 none) (
 cond (decide (0<(BC (a-(BC (0-0)))))) (
 chk (decide (0<(BC (a-(BC (0-0)))))) <|
 chk (KN ((BC (a-(BC (0-0)))):Int).toNat 32) <|
 Bg N ([]:List AK)) (
 Bg N ([]:List AK)))
def BR (N:Nat) (a:(List (List AK))) (d:(List AK)→Option (List AK)):Nat→(List AK)→Int→Option (List AK)
 |0,_,_=>none
 |i+1,b,c=>
 cond (decide (c<(↑a.length:Int))) (
 Option.bind (ix a c) λg=>
 chk (KN (b.length+g.length) 32) <|
 BR N a d i (b++g) (BC (c+1))) (
 d b)
def B6 (N:Nat) (a:List AK):Option (List AK):=
 some a
def Bd (N:Nat) (a:(List (List AK))) (c:Int):Option (List AK):=
 Option.bind (Bt N c) λb=>
 BR N a (B6 N) N b 0
def BS (N:Nat) (a:(List (List AK))) (c:Int→Option (List AK)):Nat→Int→Int→Option (List AK)
 |0,_,_=>none
 |i+1,g,b=>
 cond (decide (b<(↑a.length:Int))) (
 Option.bind (ix a b) λd=>
 cond (decide ((BC (g+(↑d.length:Int)))<0)) (
 none) (
 BS N a c i (BC (g+(↑d.length:Int))) (BC (b+1)))) (
 c g)
def Bk (N:Nat) (a:(List (List AK))):Option (List AK):=
 BS N a (Bd N a) N 0 0
def DV (N:Nat):Option Int:=
 some (-1)
def CO (N:Nat) (a:(List Int)) (b:(Int→Option Bool)) (c:Option Int):Nat→Int→Option Int
 |0,_=>none
 |j+1,d=>
 cond (decide (d<(↑a.length:Int))) (
 Option.bind (ix a d) λg=>
 Option.bind (b g) λi=>
 cond i (
 some d) (
 CO N a b c j (BC (d+1)))) (
 c)
def D5 (N:Nat) (a:(List Int)) (b:(Int→Option Bool)):Option Int:=
 CO N a b (DV N) N 0
def EW (N:Nat) (a:(List Int)) (b:(Int→Option Bool)):Option Bool:=
 Option.bind (D5 N a b) λc=>
 some (decide (0≤c))
def Gl (N:Nat) (a:Int):Option Bool:=
 some (decide (0<a))
def JI (N:Nat) (c:Int) (b:Int) (a:(List Int)):Option (List Ao):=
 Option.bind (cond (decide (b<0)) (some true) (Option.bind (EW N a (λx=>Gl N x)) λg=>
 some (!g))) λi=>
 cond i (
 some ([]:List Ao)) (
 Option.bind (CA N a) λd=>
 chk (KN (([]:List Ao).length+1) 40) <|
 some (([]:List Ao)++([(⟨c,b,d⟩:Ao)]:List Ao)))
def Fk (N:Nat) (p0_w:Aj) (a:Int) (b:AK):Option ((List (List Int))×(List Int)×(List Ae)×(List Ao)):=
 Option.bind (ix p0_w.s.Own a) λm=>
 Option.bind (ix p0_w.s.Own a) λj=>
 Option.bind (b.take j) λc=>
 Option.bind (ix p0_w.s.Own a) λk=>
 Option.bind (ix p0_w.s.Own a) λl=>
 Option.bind (Db N c.1) λg=>
 cond (decide (g≤0)) (
 some ((upd p0_w.s.Own a c.2),p0_w.s.Out,p0_w.moves,p0_w.sent)) (
 chk (KN (p0_w.moves.length+([(⟨p0_w.s.Hour,a,b.to_,b.way,c.1⟩:Ae)]:List Ae).length) 56) <|
 cond (decide (b.to_=(-1))) (
 Option.bind (Fl N p0_w.s.Out c.1) λi=>
 some ((upd p0_w.s.Own a c.2),i,(p0_w.moves++([(⟨p0_w.s.Hour,a,b.to_,b.way,c.1⟩:Ae)]:List Ae)),p0_w.sent)) (
 Option.bind (JI N (BC ((BC (p0_w.s.Hour+1))+b.delay)) b.to_ c.1) λd=>
 chk (KN (p0_w.sent.length+d.length) 40) <|
 some ((upd p0_w.s.Own a c.2),p0_w.s.Out,(p0_w.moves++([(⟨p0_w.s.Hour,a,b.to_,b.way,c.1⟩:Ae)]:List Ae)),(p0_w.sent++d))))
def Hf (N:Nat) (a:Dx) (b:Int×Int×Bool) (c:Int):Option (Int×Int):=
 cond (decide ((BC (b.2.1+c))<a.Den)) (
 some (b.1,(BC (b.2.1+c)))) (
 some ((BC (b.1+1)),(BC ((BC (b.2.1+c))-a.Den))))
def Is (N:Nat) (a:Dx) (d:Int) (b:Int):Option (Int×Int):=
 Option.bind (Ek N d a.Num a.Den) λc=>
 cond (!c.2.2) (
 some (0,0)) (
 cond ((decide (0≤b))&&(decide (b<a.Den))) (
 Hf N a c b) (
 Hf N a c 0))
def E5 (N:Nat) (p0_w:Aj) (d:Int) (o:Dx) (g:List (List Int)) (i:List Int) (j:List Ae) (k:List Ao) (l:Int×Int) (n:(List (List Int))→(List Int)→(List Ae)→(List Ao)→(List Int)→Option ((List (List Int))×(List Int)×(List Int)×(List Ae)×(List Ao))) (c:List Int):Option ((List (List Int))×(List Int)×(List Int)×(List Ae)×(List Ao)):=
 Option.bind (Fs N l.1) λm=>
 Option.bind (Fk N (⟨p0_w.b,p0_w.in_,(⟨p0_w.s.Hour,g,c,p0_w.s.Queue,p0_w.s.Gates,p0_w.s.In,i⟩:Ak),j,p0_w.peaks,k⟩:Aj) d (⟨o.Down,o.Delay,(-1),(λx=>Ab N m x)⟩:AK)) λa=>
 n a.1 a.2.1 a.2.2.1 a.2.2.2 c
def Cy (N:Nat) (p0_w:Aj) (d:Int) (o:Dx) (a:List (List Int)) (i:List Int) (j:List Ae) (k:List Ao) (g:List Int):Option ((List (List Int))×(List Int)×(List Int)×(List Ae)×(List Ao)):=
 Option.bind (ix a d) λp=>
 Option.bind (ix a d) λm=>
 Option.bind (Db N m) λl=>
 cond (decide (0<(BC (l-o.Cap)))) (
 Option.bind (Fs N (BC (l-o.Cap))) λn=>
 Option.bind (Fk N (⟨p0_w.b,p0_w.in_,(⟨p0_w.s.Hour,a,g,p0_w.s.Queue,p0_w.s.Gates,p0_w.s.In,i⟩:Ak),j,p0_w.peaks,k⟩:Aj) d (⟨o.Down,o.Delay,(-2),(λx=>Ab N n x)⟩:AK)) λc=>
 some (c.1,g,c.2.1,c.2.2.1,c.2.2.2)) (
 some (a,g,i,j,k))
def E6 (N:Nat) (p0_w:Aj) (a:Int) (j:Dx) (b:List (List Int)) (d:List Int) (g:List Ae) (i:List Ao):Option ((List (List Int))×(List Int)×(List Int)×(List Ae)×(List Ao)):=
 cond (decide (j.Den≠0)) (
 Option.bind (ix p0_w.peaks a) λo=>
 Option.bind (ix p0_w.peaks a) λk=>
 Option.bind (ix p0_w.s.Rem a) λp=>
 Option.bind (ix p0_w.s.Rem a) λl=>
 Option.bind (Is N j k l) λc=>
 Option.bind (ix p0_w.s.Rem a) λq=>
 Option.bind (ix p0_w.s.Rem a) λt=>
 Option.bind (ix b a) λu=>
 Option.bind (ix b a) λm=>
 Option.bind (Db N m) λn=>
 cond (decide (c.1≤n)) (
 Option.bind (ix (upd p0_w.s.Rem a 0) a) λv=>
 Option.bind (ix (upd p0_w.s.Rem a 0) a) λw=>
 E5 N p0_w a j b d g i c (Cy N p0_w a j) (upd (upd p0_w.s.Rem a 0) a c.2)) (
 E5 N p0_w a j b d g i c (Cy N p0_w a j) (upd p0_w.s.Rem a 0))) (
 Cy N p0_w a j b d g i p0_w.s.Rem)
def Cx (N:Nat) (p0_w:Aj) (g:Int) (d:(List AK)) (m:(List (List Int))→(List Int)→(List Ae)→(List Ao)→Option ((List (List Int))×(List Int)×(List Int)×(List Ae)×(List Ao))):Nat→Int→(List (List Int))→(List Int)→(List Ae)→(List Ao)→Option ((List (List Int))×(List Int)×(List Int)×(List Ae)×(List Ao))
 |0,_,_,_,_,_=>none
 |p+1,a,i,j,k,l=>
 cond (decide (a<(↑d.length:Int))) (
 Option.bind (ix d a) λo=>
 Option.bind (ix d a) λn=>
 Option.bind (Fk N (⟨p0_w.b,p0_w.in_,(⟨p0_w.s.Hour,i,p0_w.s.Rem,p0_w.s.Queue,p0_w.s.Gates,p0_w.s.In,j⟩:Ak),k,p0_w.peaks,l⟩:Aj) g n) λc=>
 Cx N p0_w g d m p (BC (a+1)) c.1 c.2.1 c.2.2.1 c.2.2.2) (
 m i j k l)
def HC (N:Nat) (p0_w:Aj) (a:Int):Option ((List (List Int))×(List Int)×(List Int)×(List Ae)×(List Ao)):=
 Option.bind (ix p0_w.b.Places a) λi=>
 Option.bind (HB N p0_w a) λc=>
 Option.bind (HD N p0_w a) λd=>
 Option.bind (Bk N ([c,d]:List (List AK))) λg=>
 Cx N p0_w a g (E6 N p0_w a i) N 0 p0_w.s.Own p0_w.s.Out p0_w.moves p0_w.sent
def Eh (N:Nat) (k:Ak) (c:(List (List Int))×(List Int)×(List Ae)) (a:(List (List Int))×(List Ao)×(List Au)×(List Int)) (d:List (List Int)) (g:List Int) (i:List Int) (j:List Ae) (b:List Ao):Option (Ak×(List Ae)×(List Int)):=
 chk (KN (a.2.1.length+b.length) 40) <|
 some ((⟨(BC (k.Hour+1)),d,g,(a.2.1++b),a.2.2.1,c.2.1,i⟩:Ak),j,a.2.2.2)
def Eg (N:Nat) (c:AW) (d:Ct) (o:Ak) (i:(List (List Int))×(List Int)×(List Ae)) (b:(List (List Int))×(List Ao)×(List Au)×(List Int)) (p:(List (List Int))→(List Int)→(List Int)→(List Ae)→(List Ao)→Option (Ak×(List Ae)×(List Int))):Nat→Int→(List (List Int))→(List Int)→(List Int)→(List Ae)→(List Ao)→Option (Ak×(List Ae)×(List Int))
 |0,_,_,_,_,_,_=>none
 |q+1,g,j,k,l,m,n=>
 cond (decide (g<(↑c.Places.length:Int))) (
 Option.bind (HC N (⟨c,d,(⟨o.Hour,j,k,b.2.1,b.2.2.1,i.2.1,l⟩:Ak),m,b.2.2.2,n⟩:Aj) g) λa=>
 Eg N c d o i b p q (BC (g+1)) a.1 a.2.1 a.2.2.1 a.2.2.2.1 a.2.2.2.2) (
 p j k l m n)
def Hq (N:Nat) (a:AW) (j:Ak) (c:Ct):Option (Ak×(List Ae)×(List Int)):=
 Option.bind (Ir N j) λb=>
 chk (JC (↑a.Places.length:Int) (↑a.Places.length:Int) 8) <|
 Option.bind (GF N (⟨a,c,b,([]:List Ae),(List.replicate ((↑a.Places.length:Int):Int).toNat (0:Int)),([]:List Ao)⟩:Aj)) λg=>
 Option.bind (DQ N (⟨a,c,({ b with Gates:=g}:Ak),([]:List Ae),(List.replicate ((↑a.Places.length:Int):Int).toNat (0:Int)),([]:List Ao)⟩:Aj)) λk=>
 Option.bind (Hb N (⟨a,c,(⟨b.Hour,k,b.Rem,b.Queue,g,b.In,b.Out⟩:Ak),([]:List Ae),(List.replicate ((↑a.Places.length:Int):Int).toNat (0:Int)),([]:List Ao)⟩:Aj)) λd=>
 Option.bind (E8 N (⟨a,c,(⟨b.Hour,d.1,b.Rem,b.Queue,g,d.2.1,b.Out⟩:Ak),d.2.2,(List.replicate ((↑a.Places.length:Int):Int).toNat (0:Int)),([]:List Ao)⟩:Aj)) λi=>
 Eg N a c b d i (Eh N b d i) N 0 i.1 b.Rem b.Out d.2.2 ([]:List Ao)
def Gt (N:Nat):Option Bool:=
 some true
def Fh (N:Nat) (a:(List Int)) (b:(List Int)) (c:Option Bool):Nat→Int→Option Bool
 |0,_=>none
 |j+1,d=>
 cond (decide (d<(↑a.length:Int))) (
 Option.bind (ix a d) λg=>
 Option.bind (ix b d) λi=>
 cond (decide (g≠i)) (
 some false) (
 Fh N a b c j (BC (d+1)))) (
 c)
def Cf (N:Nat) (a:(List Int)) (b:(List Int)):Option Bool:=
 cond (decide ((↑a.length:Int)≠(↑b.length:Int))) (
 some false) (
 Fh N a b (Gt N) N 0)
def EV (N:Nat) (a:(List Int)) (c1_:(List Int)):Nat→Int→(List Int)→Option (List Int)
 |0,_,_=>none
 |j+1,b,c=>
 cond (decide (b<(min (↑c1_.length:Int) (↑a.length:Int)))) (
 Option.bind (ix c b) λk=>
 Option.bind (ix c b) λd=>
 Option.bind (ix a b) λg=>
 Option.bind (Fe N d g) λi=>
 Option.bind (ix c b) λl=>
 Option.bind (ix c b) λm=>
 EV N a c1_ j (BC (b+1)) (upd c b i)) (
 some c)
def Hc (N:Nat) (c1_:(List Int)) (a:(List Int)):Option (List Int):=
 EV N a c1_ N 0 c1_
def Fa (N:Nat) (a:Ak) (c:(List Int)→Option (List Int)):Nat→Int→(List Int)→Option (List Int)
 |0,_,_=>none
 |j+1,b,d=>
 cond (decide (b<(↑a.Queue.length:Int))) (
 Option.bind (ix a.Queue b) λi=>
 Option.bind (Hc N d i.Part) λg=>
 Fa N a c j (BC (b+1)) g) (
 c d)
def G2 (N:Nat) (a:List Int):Option (List Int):=
 some a
def Es (N:Nat) (a:Ak) (b:List Int):Option (List Int):=
 Fa N a (G2 N) N 0 b
def Er (N:Nat) (a:Ak) (c:(List Int)→Option (List Int)):Nat→Int→(List Int)→Option (List Int)
 |0,_,_=>none
 |j+1,b,d=>
 cond (decide (b<(↑a.Own.length:Int))) (
 Option.bind (ix a.Own b) λg=>
 Option.bind (Hc N d g) λi=>
 Er N a c j (BC (b+1)) i) (
 c d)
def GV (N:Nat) (a:Ak):Option (List Int):=
 chk (JC (↑a.In.length:Int) (↑a.In.length:Int) 8) <|
 Er N a (Es N a) N 0 (List.replicate ((↑a.In.length:Int):Int).toNat (0:Int))
def DA (N:Nat):Option Bool:=
 some true
def CS (N:Nat) (a:(List (List Int))) (b:(List (List Int))) (c:(((List Int)×(List Int))→Option Bool)) (g:Option Bool):Nat→Int→Option Bool
 |0,_=>none
 |l+1,d=>
 cond (decide (d<(↑a.length:Int))) (
 Option.bind (ix a d) λi=>
 Option.bind (ix b d) λj=>
 Option.bind (c (i,j)) λk=>
 cond (!k) (
 some false) (
 CS N a b c g l (BC (d+1)))) (
 g)
def Ez (N:Nat) (a:(List (List Int))) (b:(List (List Int))) (c:(((List Int)×(List Int))→Option Bool)):Option Bool:=
 cond (decide ((↑a.length:Int)≠(↑b.length:Int))) (
 some false) (
 CS N a b c (DA N) N 0)
def Ff (N:Nat):Option Bool:=
 some true
def EO (N:Nat) (a:(List Int)) (b:(List Int)) (c:Option Bool):Nat→Int→Option Bool
 |0,_=>none
 |j+1,d=>
 cond (decide (d<(↑a.length:Int))) (
 Option.bind (ix a d) λg=>
 Option.bind (ix b d) λi=>
 cond (decide (g≠i)) (
 some false) (
 EO N a b c j (BC (d+1)))) (
 c)
def C0 (N:Nat) (a:(List Int)) (b:(List Int)):Option Bool:=
 cond (decide ((↑a.length:Int)≠(↑b.length:Int))) (
 some false) (
 EO N a b (Ff N) N 0)
def A7 (N:Nat):Option Bool:=
 some true
def Ax (N:Nat) (a:(List Ao)) (b:(List Ao)) (c:((Ao×Ao)→Option Bool)) (g:Option Bool):Nat→Int→Option Bool
 |0,_=>none
 |l+1,d=>
 cond (decide (d<(↑a.length:Int))) (
 Option.bind (ix a d) λi=>
 Option.bind (ix b d) λj=>
 Option.bind (c (i,j)) λk=>
 cond (!k) (
 some false) (
 Ax N a b c g l (BC (d+1)))) (
 g)
def BW (N:Nat) (a:(List Ao)) (b:(List Ao)) (c:((Ao×Ao)→Option Bool)):Option Bool:=
 cond (decide ((↑a.length:Int)≠(↑b.length:Int))) (
 some false) (
 Ax N a b c (A7 N) N 0)
def CF (N:Nat):Option Bool:=
 some true
def Bj (N:Nat) (a:(List Au)) (b:(List Au)) (c:Option Bool):Nat→Int→Option Bool
 |0,_=>none
 |j+1,d=>
 cond (decide (d<(↑a.length:Int))) (
 Option.bind (ix a d) λg=>
 Option.bind (ix b d) λi=>
 cond (!(XH g.v i.v)) (
 some false) (
 Bj N a b c j (BC (d+1)))) (
 c)
def C9 (N:Nat) (a:(List Au)) (b:(List Au)):Option Bool:=
 cond (decide ((↑a.length:Int)≠(↑b.length:Int))) (
 some false) (
 Bj N a b (CF N) N 0)
def I0 (N:Nat) (a:Ao) (b:Ao):Option Bool:=
 Option.bind (cond ((decide (a.At=b.At))&&(decide (a.To=b.To))) (Option.bind (C0 N a.Part b.Part) λc=>
 some c) (some false)) λd=>
 some d
def K2 (N:Nat) (a:Ak) (b:Ak):Option Bool:=
 Option.bind (cond (decide (a.Hour=b.Hour)) (Option.bind (Ez N a.Own b.Own (λx=>C0 N x.1 x.2)) λc=>
 some c) (some false)) λd=>
 Option.bind (cond d (Option.bind (C0 N a.Rem b.Rem) λg=>
 some g) (some false)) λi=>
 Option.bind (cond i (Option.bind (BW N a.Queue b.Queue (λx=>I0 N x.1 x.2)) λj=>
 some j) (some false)) λk=>
 Option.bind (cond k (Option.bind (C9 N a.Gates b.Gates) λl=>
 some l) (some false)) λm=>
 Option.bind (cond m (Option.bind (C0 N a.In b.In) λn=>
 some n) (some false)) λo=>
 Option.bind (cond o (Option.bind (C0 N a.Out b.Out) λp=>
 some p) (some false)) λq=>
 some q
def GP (N:Nat):Option Bool:=
 Option.bind (IT N) λo=>
 Option.bind (Lk N o 5) λc=>
 Option.bind (ID N o) λaa=>
 Option.bind (cond (!aa) (some true) (Option.bind (Hu N o c) λp=>
 some (!p))) λab=>
 cond (ab||(decide ((↑c.Own.length:Int)≠1))) (
 some false) (
 Option.bind (Hq N o c (⟨[],[],[],[],[]⟩:Ct)) λa=>
 Option.bind (Hq N o c (⟨[],[],[],([(⟨0,1,60,(-1)⟩:Fj)]:List Fj),[]⟩:Ct)) λb=>
 cond ((((decide ((↑a.2.1.length:Int)≠2))||(decide ((↑b.2.1.length:Int)≠2)))||(decide ((↑a.1.Own.length:Int)≠1)))||(decide ((↑b.1.Own.length:Int)≠1))) (
 some false) (
 Option.bind (ix a.2.1 0) λac=>
 Option.bind (ix a.2.1 0) λq=>
 Option.bind (cond (decide (q.Way=(-1))) (Option.bind (ix a.2.1 0) λad=>
 Option.bind (ix a.2.1 0) λs=>
 Option.bind (Cf N s.Part ([10,5]:List Int)) λt=>
 some t) (some false)) λu=>
 Option.bind (cond u (Option.bind (ix a.2.1 1) λae=>
 Option.bind (ix a.2.1 1) λv=>
 some (decide (v.Way=(-2)))) (some false)) λw=>
 Option.bind (cond w (Option.bind (ix a.2.1 1) λaf=>
 Option.bind (ix a.2.1 1) λx=>
 Option.bind (Cf N x.Part ([10,5]:List Int)) λy=>
 some y) (some false)) λz=>
 Option.bind (cond z (Option.bind (Cf N a.2.2 ([150]:List Int)) λA=>
 some A) (some false)) λB=>
 Option.bind (ix a.1.Own 0) λC=>
 Option.bind (Cf N C ([80,40]:List Int)) λD=>
 Option.bind (cond D (Option.bind (Cf N a.1.Out ([20,10]:List Int)) λF=>
 some F) (some false)) λG=>
 Option.bind (cond G (some (decide (a.1.Hour=6))) (some false)) λH=>
 Option.bind (cond H (Option.bind (GV N a.1) λI=>
 Option.bind (Cf N I ([80,40]:List Int)) λJ=>
 some J) (some false)) λK=>
 Option.bind (ix b.2.1 0) λag=>
 Option.bind (ix b.2.1 0) λM=>
 Option.bind (cond (decide (M.Way=(-3))) (Option.bind (ix b.2.1 0) λah=>
 Option.bind (ix b.2.1 0) λQ=>
 Option.bind (Cf N Q.Part ([0,50]:List Int)) λU=>
 some U) (some false)) λV=>
 Option.bind (cond V (Option.bind (ix b.2.1 1) λai=>
 Option.bind (ix b.2.1 1) λW=>
 Option.bind (Cf N W.Part ([15,0]:List Int)) λX=>
 some X) (some false)) λY=>
 Option.bind (cond Y (Option.bind (ix b.1.Own 0) λZ=>
 Option.bind (Cf N Z ([85,0]:List Int)) λd=>
 some d) (some false)) λg=>
 Option.bind (cond ((B&&K)&&g) (Option.bind (K2 N c c) λi=>
 some i) (some false)) λj=>
 Option.bind (cond j (Option.bind (K2 N c a.1) λk=>
 some (!k)) (some false)) λl=>
 Option.bind (cond l (Option.bind (Hu N o a.1) λm=>
 some m) (some false)) λn=>
 some n))
def II (N:Nat) (b:AW) (c:Ak) (a:Ct):Option Bool:=
 cond ((((decide (6<(↑b.Places.length:Int)))||(decide (6<(↑b.Links.length:Int))))||(decide (4<(↑b.Owners.length:Int))))||(decide (12<(↑c.Queue.length:Int)))) (
 some false) (
 some (((((decide ((↑a.Rain.length:Int)≤8))&&(decide ((↑a.Faults.length:Int)≤8)))&&(decide ((↑a.Cmds.length:Int)≤8)))&&(decide ((↑a.Takes.length:Int)≤8)))&&(decide ((↑a.Swaps.length:Int)≤8))))
def Hw (N:Nat) (a:AW) (b:Ak) (c:Ct):Option Bool:=
 Option.bind (II N a b c) λd=>
 Option.bind (cond d (Option.bind (ID N a) λg=>
 some g) (some false)) λi=>
 Option.bind (cond i (Option.bind (Hu N a b) λj=>
 some j) (some false)) λk=>
 some k
def FH (N:Nat) (a:Int):Option Int:=
 some a
def DW (N:Nat) (a:(List Int)) (b:Int→Option Int):Nat→Int→Int→Option Int
 |0,_,_=>none
 |i+1,g,c=>
 cond (decide (c<(↑a.length:Int))) (
 Option.bind (ix a c) λd=>
 DW N a b i (BC (g+d)) (BC (c+1))) (
 b g)
def Be (N:Nat) (a:(List Int)):Option Int:=
 DW N a (FH N) N 0 0
def Bn (N:Nat) (c:AW) (a:Ct) (g:Int→Option Bool):Nat→Int→Int→Option Bool
 |0,_,_=>none
 |j+1,d,b=>
 cond ((decide (b<(↑a.Rain.length:Int)))&&(decide (b<(↑c.Places.length:Int)))) (
 Option.bind (ix a.Rain b) λi=>
 Bn N c a g j (BC (d+(min (max i 0) 1125899906842624))) (BC (b+1))) (
 g d)
def Bm (N:Nat) (b:Ak) (c:Ct) (l:Ak×(List Ae)×(List Int)) (j:(List Int)) (d:(List Int)) (k:Int) (m:Option Bool):Nat→Int→Option Bool
 |0,_=>none
 |v+1,a=>
 cond (decide (a<(↑j.length:Int))) (
 Option.bind (ix l.1.In a) λg=>
 Option.bind (ix b.In a) λi=>
 cond (((decide ((BC (g-i))≠0))&&(decide (a≠0)))||((decide (a=0))&&(decide ((BC (g-i))≠k)))) (
 some false) (
 Option.bind (cond (decide ((↑c.Swaps.length:Int)=0)) (Option.bind (ix d a) λt=>
 Option.bind (ix d a) λn=>
 Option.bind (ix l.1.Out a) λo=>
 Option.bind (ix j a) λu=>
 Option.bind (ix j a) λp=>
 Option.bind (ix b.Out a) λq=>
 some (decide ((BC (n+o))≠(BC ((BC (p+q))+(BC (g-i))))))) (some false)) λs=>
 cond s (
 some false) (
 Bm N b c l j d k m v (BC (a+1))))) (
 m)
def Ce (N:Nat) (d:Ak) (v:Bool) (g:Ak×(List Ae)×(List Int)) (i:(List Int)) (b:(List Int)) (a:Int) (c:Int):Option Bool:=
 Option.bind (Be N b) λj=>
 Option.bind (cond ((decide (j≤1125899906842624))&&(decide (a≤c))) (Option.bind (cond (decide (a=c)) (some true) (Option.bind (Be N i) λk=>
 some (decide ((BC (k+a))=1125899906842624)))) λl=>
 Option.bind (cond l (some true) (Option.bind (Be N g.1.In) λm=>
 some (decide (m=1152921504606846976)))) λn=>
 some n) (some false)) λo=>
 Option.bind (cond (v&&o) (Option.bind (Be N b) λp=>
 Option.bind (Be N g.1.Out) λq=>
 Option.bind (Be N i) λs=>
 Option.bind (Be N d.Out) λt=>
 some (decide ((BC (p+q))=(BC ((BC (s+t))+a))))) (some false)) λu=>
 some u
def DO (N:Nat) (a:Ak) (d:Ct) (k:Bool) (g:Ak×(List Ae)×(List Int)) (i:(List Int)) (b:(List Int)) (c:Int) (j:Int):Option Bool:=
 Bm N a d g i b c (Ce N a k g i b c j) N 0
def CL (N:Nat) (b:AW) (c:Ak) (a:Ct) (i:Bool) (j:Ak×(List Ae)×(List Int)) (k:(List Int)) (d:(List Int)) (g:Int):Option Bool:=
 Bn N b a (DO N c a i j k d g) N 0 0
def DP (N:Nat) (a:Int) (c:Int→Int→Option Bool) (b:Int):Option Bool:=
 c b (BC (a+1))
def BL (N:Nat) (b:Ak×(List Ae)×(List Int)) (d:Int→Option Bool):Nat→Int→Int→Option Bool
 |0,_,_=>none
 |k+1,c,a=>
 cond (decide (a<(↑b.2.1.length:Int))) (
 Option.bind (ix b.2.1 a) λl=>
 Option.bind (ix b.2.1 a) λg=>
 cond (decide (g.Way=(-4))) (
 Option.bind (ix b.2.1 a) λm=>
 Option.bind (ix b.2.1 a) λi=>
 Option.bind (Be N i.Part) λj=>
 DP N a (BL N b d k) (BC (c+j))) (
 DP N a (BL N b d k) c)) (
 d c)
def D0 (N:Nat) (b:AW) (c:Ak) (a:Ct):Option Bool:=
 Option.bind (GP N) λj=>
 Option.bind (Hw N b c a) λk=>
 cond (!k) (
 some j) (
 Option.bind (Hq N b c a) λd=>
 Option.bind (GV N c) λi=>
 Option.bind (GV N d.1) λg=>
 cond (((decide ((↑g.length:Int)≠(↑b.Owners.length:Int)))||(decide ((↑d.1.In.length:Int)≠(↑i.length:Int))))||(decide ((↑d.1.Out.length:Int)≠(↑i.length:Int)))) (
 some false) (
 BL N d (CL N b c a j d i g) N 0 0))
end Go.Proofs.YtblcgjadhemlbaaGreat
