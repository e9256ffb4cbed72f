import Derived.Test.YtblcgjadhemlbaaGreatRReps
import Derived.Test.YtblcgjadhemlbaaGreatRSortD
namespace Go.Proofs.YtblcgjadhemlbaaGreat
open Go.RowKit
set_option linter.unusedVariables false
def Ih (N:Nat):Option AX:=
 some (⟨(ByteArray.mk #[98]),Mv,0,Mw,[],[],[],[],[],([0,0,0]:List Int),0⟩:AX)
def CG (N:Nat) (a:(List Int)):Option (List Int):=
 chk (Jk (([]:List Int).length+a.length) 8) <|
 some (([]:List Int)++a)
def JG (N:Nat) (a:AX) (b:Int) (c:List (List Int)):Option Aj:=
 some (⟨b,c,(List.replicate ((↑a.Places.length:Int):Int).toNat (0:Int)),[],(List.replicate ((↑a.Links.length:Int):Int).toNat ((⟨0,0,false,false⟩:Ax):Ax)),(List.replicate ((↑a.Owners.length:Int):Int).toNat (0:Int)),(List.replicate ((↑a.Owners.length:Int):Int).toNat (0:Int))⟩:Aj)
def ID (N:Nat) (c:AX) (d:(List (List Int))→Option Aj):Nat→Int→(List (List Int))→Option Aj
 |0,_,_=>none
 |l+1,a,b=>
 cond (decide (a<(↑c.Places.length:Int))) (
 Option.bind (ix c.Places a) λg=>
 Option.bind (CG N g.Start) λi=>
 Option.bind (ix b a) λj=>
 Option.bind (ix b a) λk=>
 ID N c d l (BD (a+1)) (upd b a i)) (
 d b)
def Lq (N:Nat) (a:AX) (b:Int):Option Aj:=
 chk (JQ (↑a.Places.length:Int) (↑a.Places.length:Int) 24) <|
 chk (JQ (↑a.Places.length:Int) (↑a.Places.length:Int) 8) <|
 chk (JQ (↑a.Links.length:Int) (↑a.Links.length:Int) 24) <|
 chk (JQ (↑a.Owners.length:Int) (↑a.Owners.length:Int) 8) <|
 chk (JQ (↑a.Owners.length:Int) (↑a.Owners.length:Int) 8) <|
 ID N a (JG N a b) N 0 (List.replicate ((↑a.Places.length:Int):Int).toNat ([]:(List Int)))
def CD (N:Nat) (c:Int) (b:Int) (a:Int):Option Bool:=
 some ((decide (b≤c))&&(decide (c≤a)))
def B7 (N:Nat) (a:Int):Option Bool:=
 Option.bind (CD N a 0 1125899906842624) λb=>
 some b
def Dh (N:Nat) (a:AX) (c:Option Bool):Nat→Int→Option Bool
 |0,_=>none
 |i+1,b=>
 cond (decide (b<(↑a.Room.length:Int))) (
 Option.bind (ix a.Room b) λd=>
 Option.bind (B7 N d) λg=>
 cond (!g) (
 some false) (
 Dh N a c i (BD (b+1)))) (
 c)
def qZ (N:Nat):Option Bool:=
 some true
def Dj (N:Nat) (a:AX):Option Bool:=
 Dh N a (qZ N) N 0
def Di (N:Nat) (a:AX) (d:Option Bool):Nat→Int→Option Bool
 |0,_=>none
 |g+1,c=>
 cond (decide (c<(↑a.Name.size:Int))) (
 Option.bind (Ue a.Name c) λb=>
 cond ((((decide (b<32))||(decide (126<b)))||(decide (b=34)))||(decide (b=92))) (
 some false) (
 Di N a d g (BD (c+1)))) (
 d)
def HV (N:Nat) (a:AX):Option Bool:=
 Option.bind (cond (decide (500<(↑a.Name.size:Int))) (some true) (Option.bind (CD N (↑a.Owners.length:Int) 1 16) λb=>
 some (!b))) λc=>
 Option.bind (cond c (some true) (Option.bind (CD N a.Cells 0 64) λd=>
 some (!d))) λg=>
 Option.bind (cond g (some true) (Option.bind (CD N (↑a.Places.length:Int) 1 64) λi=>
 some (!i))) λj=>
 Option.bind (cond ((((((j||(decide (96<(↑a.Links.length:Int))))||(decide (40<(↑a.Towns.length:Int))))||(decide (128<(↑a.Gauges.length:Int))))||(decide (128<(↑a.Roads.length:Int))))||(decide (40<(↑a.Shelters.length:Int))))||(decide ((↑a.Room.length:Int)≠3))) (some true) (Option.bind (CD N a.Err 0 1099511627776) λk=>
 some (!k))) λl=>
 cond l (
 some false) (
 Di N a (Dj N a) N 0)
def GP (N:Nat):Option Bool:=
 some true
def Ep (N:Nat) (a:ByteArray) (d:Option Bool):Nat→Int→Option Bool
 |0,_=>none
 |g+1,c=>
 cond (decide (c<(↑a.size:Int))) (
 Option.bind (Ue a c) λb=>
 cond ((((decide (b<97))||(decide (122<b)))&&((decide (b<48))||(decide (57<b))))&&(decide (b≠95))) (
 some false) (
 Ep N a d g (BD (c+1)))) (
 d)
def Ii (N:Nat) (a:ByteArray):Option Bool:=
 Option.bind (cond (((decide ((↑a.size:Int)<1))||(decide (24<(↑a.size:Int))))||(a==(ByteArray.mk #[111,117,116]))) (some true) (Option.bind (Ue a 0) λb=>
 some (decide (b<97)))) λc=>
 Option.bind (cond c (some true) (Option.bind (Ue a 0) λd=>
 some (decide (122<d)))) λg=>
 cond g (
 some false) (
 Ep N a (GP N) N 1)
def Gr (N:Nat) (a:(List (AT×Bool))) (b:ByteArray) (d:ByteArray):Option (Bool×(List (AT×Bool))):=
 Option.bind (Ii N b) λc=>
 cond ((!c)||((O1 (λk:AT=>Value.agg (AT.v k).toArray) a (⟨d,b⟩:AT)).getD false)) (
 some (false,a)) (
 some (true,(RQ (λk:AT=>Value.agg (AT.v k).toArray) a (⟨d,b⟩:AT) true)))
def JA (N:Nat) (a:(List (AT×Bool))) (b:ByteArray) (c:ByteArray):Option (Bool×(List (AT×Bool))):=
 cond (b==(ByteArray.mk #[115,104,101,108,116,101,114])) (
 Gr N a c (ByteArray.mk #[116,111,119,110])) (
 Gr N a c b)
def CV (N:Nat) (c2_:(List (AT×Bool))) (c3_:Bool) (a:ByteArray) (b:ByteArray):Option ((List (AT×Bool))×Bool):=
 Option.bind (JA N c2_ a b) λc=>
 some (c.2,(c.1&&c3_))
def Ct (N:Nat) (a:AX) (d:Bool→((List (AT×Bool)))→Option Bool):Nat→Int→Bool→((List (AT×Bool)))→Option Bool
 |0,_,_,_=>none
 |k+1,c,g,i=>
 cond (decide (c<(↑a.Places.length:Int))) (
 Option.bind (ix a.Places c) λj=>
 Option.bind (CV N i g (ByteArray.mk #[112,108,97,99,101]) j.Name) λb=>
 Ct N a d k (BD (c+1)) b.2 b.1) (
 d g i)
def Cs (N:Nat) (a:AX) (i:Bool→((List (AT×Bool)))→Option Bool):Nat→Int→Bool→((List (AT×Bool)))→Option Bool
 |0,_,_,_=>none
 |k+1,b,c,d=>
 cond (decide (b<(↑a.Links.length:Int))) (
 Option.bind (ix a.Links b) λj=>
 Option.bind (CV N d c (ByteArray.mk #[108,105,110,107]) j.Name) λg=>
 Cs N a i k (BD (b+1)) g.2 g.1) (
 i c d)
def Cr (N:Nat) (a:AX) (i:Bool→((List (AT×Bool)))→Option Bool):Nat→Int→Bool→((List (AT×Bool)))→Option Bool
 |0,_,_,_=>none
 |k+1,b,c,d=>
 cond (decide (b<(↑a.Towns.length:Int))) (
 Option.bind (ix a.Towns b) λj=>
 Option.bind (CV N d c (ByteArray.mk #[116,111,119,110]) j.Name) λg=>
 Cr N a i k (BD (b+1)) g.2 g.1) (
 i c d)
def Cq (N:Nat) (a:AX) (i:Bool→((List (AT×Bool)))→Option Bool):Nat→Int→Bool→((List (AT×Bool)))→Option Bool
 |0,_,_,_=>none
 |k+1,b,c,d=>
 cond (decide (b<(↑a.Shelters.length:Int))) (
 Option.bind (ix a.Shelters b) λj=>
 Option.bind (CV N d c (ByteArray.mk #[115,104,101,108,116,101,114]) j.Name) λg=>
 Cq N a i k (BD (b+1)) g.2 g.1) (
 i c d)
def Cf (N:Nat) (a:AX) (c:Bool→((List (AT×Bool)))→Option Bool):Nat→Int→Bool→((List (AT×Bool)))→Option Bool
 |0,_,_,_=>none
 |k+1,b,d,g=>
 cond (decide (b<(↑a.Gauges.length:Int))) (
 Option.bind (ix a.Gauges b) λj=>
 Option.bind (CV N g d (ByteArray.mk #[103,97,117,103,101]) j.Name) λi=>
 Cf N a c k (BD (b+1)) i.2 i.1) (
 c d g)
def Ce (N:Nat) (a:AX) (c:Bool→Option Bool):Nat→Int→Bool→((List (AT×Bool)))→Option Bool
 |0,_,_,_=>none
 |k+1,b,d,i=>
 cond (decide (b<(↑a.Roads.length:Int))) (
 Option.bind (ix a.Roads b) λj=>
 Option.bind (CV N i d (ByteArray.mk #[114,111,97,100]) j.Name) λg=>
 Ce N a c k (BD (b+1)) g.2 g.1) (
 c d)
def Dq (N:Nat) (a:Bool):Option Bool:=
 some a
def Dr (N:Nat) (a:AX) (b:Bool) (c:(List (AT×Bool))):Option Bool:=
 Ce N a (Dq N) N 0 b c
def D5 (N:Nat) (a:AX) (b:Bool) (c:(List (AT×Bool))):Option Bool:=
 Cf N a (Dr N a) N 0 b c
def D6 (N:Nat) (a:AX) (b:Bool) (c:(List (AT×Bool))):Option Bool:=
 Cq N a (D5 N a) N 0 b c
def D7 (N:Nat) (a:AX) (b:Bool) (c:(List (AT×Bool))):Option Bool:=
 Cr N a (D6 N a) N 0 b c
def D8 (N:Nat) (a:AX) (b:Bool) (c:(List (AT×Bool))):Option Bool:=
 Cs N a (D7 N a) N 0 b c
def D9 (N:Nat) (a:AX) (b:Bool) (c:(List (AT×Bool))):Option Bool:=
 Ct N a (D8 N a) N 0 b c
def Cu (N:Nat) (a:AX) (c:Bool→((List (AT×Bool)))→Option Bool):Nat→Int→Bool→((List (AT×Bool)))→Option Bool
 |0,_,_,_=>none
 |k+1,b,d,g=>
 cond (decide (b<(↑a.Owners.length:Int))) (
 Option.bind (ix a.Owners b) λj=>
 Option.bind (CV N g d (ByteArray.mk #[111,119,110,101,114]) j) λi=>
 Cu N a c k (BD (b+1)) i.2 i.1) (
 c d g)
def H5 (N:Nat) (a:AX):Option Bool:=
 Cu N a (D9 N a) N 0 true ([]:(List (AT×Bool)))
def Hr (N:Nat):Option Bool:=
 some true
def Ft (N:Nat) (a:(List BS)) (d:Option Bool):Nat→Int→Option Bool
 |0,_=>none
 |l+1,c=>
 cond (decide (c<(↑a.length:Int))) (
 Option.bind (ix a c) λb=>
 cond ((((decide (b.X<0))||(decide (1125899906842624<b.X)))||(decide (b.Y<0)))||(decide (1125899906842624<b.Y))) (
 some false) (
 Option.bind (cond (decide (0<c)) (Option.bind (ix a (BD (c-1))) λg=>
 Option.bind (cond (decide (b.X≤g.X)) (some true) (Option.bind (ix a (BD (c-1))) λi=>
 some (decide (b.Y<i.Y)))) λj=>
 some j) (some false)) λk=>
 cond k (
 some false) (
 Ft N a d l (BD (c+1))))) (
 d)
def E0 (N:Nat) (a:(List BS)):Option Bool:=
 cond ((decide ((↑a.length:Int)<1))||(decide (32<(↑a.length:Int)))) (
 some false) (
 Ft N a (Hr N) N 0)
def Fu (N:Nat) (a:Int) (b:Int):Option Bool:=
 Option.bind (B7 N a) λc=>
 Option.bind (cond c (Option.bind (B7 N b) λd=>
 some d) (some false)) λg=>
 some (g&&((decide (b≠0))||(decide (a=0))))
def EO (N:Nat) (b:Int) (a:Int):Option Bool:=
 Option.bind (CD N b 0 (BD (a-1))) λc=>
 some c
def Hs (N:Nat) (c:AX) (b:Int) (a:Int):Option Bool:=
 Option.bind (cond (decide (a=(-1))) (some true) (Option.bind (EO N a (↑c.Places.length:Int)) λd=>
 some (d&&(decide (a≠b))))) λg=>
 some g
def Br (N:Nat) (a:Int):Option Bool:=
 some (decide (a≤1125899906842624))
def Cd (N:Nat) (d:Dv) (g:Int→Option Bool):Nat→Int→Int→Option Bool
 |0,_,_=>none
 |j+1,b,a=>
 cond (decide (a<(↑d.Start.length:Int))) (
 Option.bind (ix d.Start a) λc=>
 Option.bind (B7 N c) λi=>
 cond (!i) (
 some false) (
 Cd N d g j (BD (b+c)) (BD (a+1)))) (
 g b)
def Cc (N:Nat) (c:AX) (g:Dv) (d:Int) (i:Int→Option Bool):Nat→Int→Int→Option Bool
 |0,_,_=>none
 |m+1,j,b=>
 cond (decide (b<(↑g.Rain.length:Int))) (
 Option.bind (ix g.Rain b) λa=>
 Option.bind (cond ((decide (a.Index≤j))||(decide (c.Cells≤a.Index))) (some true) (Option.bind (B7 N a.Area) λk=>
 some (!k))) λl=>
 cond l (
 some false) (
 Cc N c g d i m a.Index (BD (b+1)))) (
 i d)
def Dp (N:Nat) (a:AX) (c:Dv) (d:Int→Option Bool) (b:Int):Option Bool:=
 Cc N a c b d N (-1) 0
def CI (N:Nat) (a:Int) (b:Int→Int→Option Bool) (c:Int):Option Bool:=
 b c (BD (a+1))
def Bc (N:Nat) (b:AX) (d:Int→Option Bool):Nat→Int→Int→Option Bool
 |0,_,_=>none
 |y+1,g,c=>
 cond (decide (c<(↑b.Places.length:Int))) (
 Option.bind (ix b.Places c) λa=>
 Option.bind (CD N a.Kind 0 3) λj=>
 Option.bind (cond (!j) (some true) (Option.bind (CD N a.Office 0 2) λk=>
 some (!k))) λl=>
 Option.bind (cond l (some true) (Option.bind (CD N a.Delay 0 240) λm=>
 some (!m))) λn=>
 Option.bind (cond n (some true) (Option.bind (B7 N a.Cap) λo=>
 some (!o))) λp=>
 Option.bind (cond p (some true) (Option.bind (B7 N a.Floor) λq=>
 some (!q))) λs=>
 Option.bind (cond s (some true) (Option.bind (E0 N a.Level) λt=>
 some (!t))) λu=>
 Option.bind (cond (u||(decide ((↑a.Start.length:Int)≠(↑b.Owners.length:Int)))) (some true) (Option.bind (Fu N a.Num a.Den) λv=>
 some (!v))) λw=>
 Option.bind (cond w (some true) (Option.bind (Hs N b c a.Down) λi=>
 some (!i))) λx=>
 cond x (
 some false) (
 Cd N a (Dp N b a (CI N c (Bc N b d y))) N g 0)) (
 d g)
def Hb (N:Nat) (a:AX):Option Bool:=
 Bc N a (Br N) N 0 0
def Hl (N:Nat) (a:Int):Option Int:=
 some a
def FH (N:Nat) (b:(Int→Option Bool)) (d:Int→Option Int):Nat→Int→Int→Option Int
 |0,_,_=>none
 |i+1,a,c=>
 cond (decide (a<c)) (
 Option.bind (b (BD (D4 .u64 (IntKind.wrap .u64 (BD (a+c))) 1))) λg=>
 cond (!g) (
 FH N b d i (BD ((BD (D4 .u64 (IntKind.wrap .u64 (BD (a+c))) 1))+1)) c) (
 FH N b d i a (BD (D4 .u64 (IntKind.wrap .u64 (BD (a+c))) 1)))) (
 d a)
def Jz (N:Nat) (a:Int) (b:(Int→Option Bool)):Option Int:=
 FH N b (Hl N) N 0 a
def HD (N:Nat) (c1_:(List BS)) (c2_:Int) (a:Int):Option Bool:=
 Option.bind (ix c1_ a) λb=>
 some (decide (c2_<b.X))
def GN (N:Nat) (a:Int) (b:Int):Option (Int×Int):=
 some ((IntKind.wrap .u64 ((IntKind.wrap .u64 ((IntKind.wrap .u64 ((D4 .u64 a 32)*(D4 .u64 b 32)))+(D4 .u64 (IntKind.wrap .u64 ((IntKind.wrap .u64 ((D4 .u64 a 32)*(G5 .and .u64 b 4294967295)))+(D4 .u64 (IntKind.wrap .u64 ((G5 .and .u64 a 4294967295)*(G5 .and .u64 b 4294967295))) 32))) 32)))+(D4 .u64 (IntKind.wrap .u64 ((G5 .and .u64 (IntKind.wrap .u64 ((IntKind.wrap .u64 ((D4 .u64 a 32)*(G5 .and .u64 b 4294967295)))+(D4 .u64 (IntKind.wrap .u64 ((G5 .and .u64 a 4294967295)*(G5 .and .u64 b 4294967295))) 32))) 4294967295)+(IntKind.wrap .u64 ((G5 .and .u64 a 4294967295)*(D4 .u64 b 32))))) 32))),(IntKind.wrap .u64 (a*b)))
def FI (N:Nat) (a:Int) (b:Int):Option Int:=
 Option.bind (Ue LB (IntKind.wrap .u8 a)) λc=>
 some (BD (b+(BD c)))
def FJ (N:Nat) (a:Int) (b:Int):Option Int:=
 cond (decide (256≤a)) (
 FI N (D4 .u64 a 8) (BD (b+8))) (
 FI N a b)
def FK (N:Nat) (a:Int) (b:Int):Option Int:=
 cond (decide (65536≤a)) (
 FJ N (D4 .u64 a 16) (BD (b+16))) (
 FJ N a b)
def HU (N:Nat) (a:Int):Option Int:=
 cond (decide (4294967296≤a)) (
 FK N (D4 .u64 a 32) 32) (
 FK N a 0)
def EK (N:Nat) (a:Int):Option Int:=
 Option.bind (HU N a) λb=>
 some (BD (64-b))
def C5 (N:Nat) (b:Int) (a:Int) (d:Nat) (j:Nat) (g:Int→Option (Int×Int)):Nat→Int→Int→Option (Int×Int)
 |0,_,_=>none
 |k+1,i,c=>
 cond ((decide (4294967296≤c))||(decide ((IntKind.wrap .u64 ((IntKind.wrap .u64 (4294967296*i))+(G5 .and .u64 (C0 .u64 b j) 4294967295)))<(IntKind.wrap .u64 (c*(G5 .and .u64 (C0 .u64 a d) 4294967295)))))) (
 cond (decide (4294967296≤(IntKind.wrap .u64 (i+(D4 .u64 (C0 .u64 a d) 32))))) (
 g (IntKind.wrap .u64 (c-1))) (
 C5 N b a d j g k (IntKind.wrap .u64 (i+(D4 .u64 (C0 .u64 a d) 32))) (IntKind.wrap .u64 (c-1)))) (
 g c)
def EL (N:Nat) (c:Int) (a:Int) (b:Int) (n:Int) (d:Nat) (k:Nat) (l:Nat) (g:Nat) (i:Int) (j:Int):Option (Int×Int):=
 Option.bind (NU (IntKind.wrap .u64 n)) λm=>
 some ((IntKind.wrap .u64 ((IntKind.wrap .u64 (i*4294967296))+j)),(D4 .u64 (IntKind.wrap .u64 ((IntKind.wrap .u64 ((IntKind.wrap .u64 ((IntKind.wrap .u64 ((IntKind.wrap .u64 ((IntKind.wrap .u64 ((G5 .or .u64 (C0 .u64 c k) (D4 .u64 a l))*4294967296))+(D4 .u64 (C0 .u64 a g) 32)))-(IntKind.wrap .u64 (i*(C0 .u64 b d)))))*4294967296))+(G5 .and .u64 (C0 .u64 a g) 4294967295)))-(IntKind.wrap .u64 (j*(C0 .u64 b d))))) m))
def C6 (N:Nat) (c:Int) (a:Int) (b:Int) (m:Int) (d:Nat) (i:Nat) (j:Nat) (g:Nat) (k:Int):Option (Int×Int):=
 Option.bind (O0 .u64 (IntKind.wrap .u64 ((IntKind.wrap .u64 ((IntKind.wrap .u64 ((G5 .or .u64 (C0 .u64 c i) (D4 .u64 a j))*4294967296))+(D4 .u64 (C0 .u64 a g) 32)))-(IntKind.wrap .u64 (k*(C0 .u64 b d))))) (D4 .u64 (C0 .u64 b d) 32)) λl=>
 C5 N a b d g (EL N c a b m d i j g k) N (IntKind.wrap .u64 ((IntKind.wrap .u64 ((IntKind.wrap .u64 ((IntKind.wrap .u64 ((G5 .or .u64 (C0 .u64 c i) (D4 .u64 a j))*4294967296))+(D4 .u64 (C0 .u64 a g) 32)))-(IntKind.wrap .u64 (k*(C0 .u64 b d)))))-(IntKind.wrap .u64 (l*(D4 .u64 (C0 .u64 b d) 32))))) l
def Cj (N:Nat) (b:Int) (a:Int) (d:Nat) (j:Nat) (g:Int→Option (Int×Int)):Nat→Int→Int→Option (Int×Int)
 |0,_,_=>none
 |k+1,c,i=>
 cond ((decide (4294967296≤c))||(decide ((IntKind.wrap .u64 ((IntKind.wrap .u64 (4294967296*i))+(D4 .u64 (C0 .u64 b j) 32)))<(IntKind.wrap .u64 (c*(G5 .and .u64 (C0 .u64 a d) 4294967295)))))) (
 cond (decide (4294967296≤(IntKind.wrap .u64 (i+(D4 .u64 (C0 .u64 a d) 32))))) (
 g (IntKind.wrap .u64 (c-1))) (
 Cj N b a d j g k (IntKind.wrap .u64 (c-1)) (IntKind.wrap .u64 (i+(D4 .u64 (C0 .u64 a d) 32))))) (
 g c)
def Eo (N:Nat) (c:Int) (b:Int) (a:Int):Option (Int×Int):=
 cond (decide (a=0)) (
 none) (
 cond (decide (a≤c)) (
 none) (
 cond (decide (c=0)) (
 Option.bind (O0 .u64 b a) λm=>
 Option.bind (RJ b a) λn=>
 some (m,n)) (
 Option.bind (EK N a) λj=>
 Option.bind (NU (IntKind.wrap .u64 j)) λd=>
 Option.bind (NU (IntKind.wrap .u64 j)) λg=>
 Option.bind (NU (IntKind.wrap .u64 (64-(IntKind.wrap .u64 j)))) λi=>
 Option.bind (NU (IntKind.wrap .u64 j)) λk=>
 Option.bind (O0 .u64 (G5 .or .u64 (C0 .u64 c g) (D4 .u64 b i)) (D4 .u64 (C0 .u64 a d) 32)) λl=>
 Cj N b a d k (C6 N c b a j d g i k) N l (IntKind.wrap .u64 ((G5 .or .u64 (C0 .u64 c g) (D4 .u64 b i))-(IntKind.wrap .u64 (l*(D4 .u64 (C0 .u64 a d) 32))))))))
def Ez (N:Nat) (c:Int) (b:Int) (a:Int):Option (Int×Int×Bool):=
 cond ((((((decide (c<0))||(decide (1125899906842624<c)))||(decide (b<0)))||(decide (1125899906842624<b)))||(decide (a<1)))||(decide (1125899906842624<a))) (
 some (0,0,false)) (
 Option.bind (GN N (IntKind.wrap .u64 c) (IntKind.wrap .u64 b)) λg=>
 cond (decide ((IntKind.wrap .u64 a)≤g.1)) (
 some (0,0,false)) (
 Option.bind (Eo N g.1 g.2 (IntKind.wrap .u64 a)) λd=>
 cond (decide (1125899906842624<d.1)) (
 some (0,0,false)) (
 some ((BD d.1),(BD d.2),true))))
def HY (N:Nat) (a:(List BS)) (d:Int):Option (Int×Bool):=
 Option.bind (Jz N (↑a.length:Int) (λx=>HD N a d x)) λb=>
 cond (decide (b=0)) (
 Option.bind (ix a 0) λi=>
 some (i.Y,false)) (
 Option.bind (ix a (BD (b-1))) λc=>
 cond (decide (b=(↑a.length:Int))) (
 some (c.Y,false)) (
 Option.bind (ix a b) λj=>
 Option.bind (ix a b) λk=>
 Option.bind (Ez N (BD (d-c.X)) (BD (j.Y-c.Y)) (BD (k.X-c.X))) λg=>
 some ((BD (c.Y+g.1)),(decide (0<g.2.1)))))
def FL (N:Nat) (b:(List BS)) (a:(List BS)) (i:Option Bool):Nat→Int→Option Bool
 |0,_=>none
 |j+1,c=>
 cond (decide (c<(↑a.length:Int))) (
 Option.bind (ix a c) λd=>
 Option.bind (HY N b d.X) λg=>
 cond ((decide (d.Y<g.1))||((decide (g.1=d.Y))&&g.2)) (
 some false) (
 FL N b a i j (BD (c+1)))) (
 i)
def Gq (N:Nat):Option Bool:=
 some true
def FO (N:Nat) (a:(List BS)) (b:(List BS)):Option Bool:=
 FL N a b (Gq N) N 0
def FM (N:Nat) (a:(List BS)) (b:(List BS)) (d:Option Bool):Nat→Int→Option Bool
 |0,_=>none
 |j+1,c=>
 cond (decide (c<(↑a.length:Int))) (
 Option.bind (ix a c) λg=>
 Option.bind (HY N b g.X) λi=>
 cond (decide (i.1<g.Y)) (
 some false) (
 FM N a b d j (BD (c+1)))) (
 d)
def Gk (N:Nat) (a:(List BS)) (b:(List BS)):Option Bool:=
 Option.bind (E0 N a) λc=>
 Option.bind (cond (!c) (some true) (Option.bind (E0 N b) λd=>
 some (!d))) λg=>
 cond g (
 some false) (
 FM N a b (FO N a b) N 0)
def Ec (N:Nat) (a:A7) (b:Bool):Option Bool:=
 cond b (
 Option.bind (B7 N a.Crest) λc=>
 Option.bind (cond c (Option.bind (B7 N a.Num) λd=>
 some d) (some false)) λg=>
 Option.bind (cond g (Option.bind (CD N a.Den 1 1125899906842624) λi=>
 some i) (some false)) λj=>
 some j) (
 cond (decide (a.Kind=2)) (
 Option.bind (B7 N a.Num) λk=>
 Option.bind (cond k (Option.bind (CD N a.Positions 1 64) λl=>
 some l) (some false)) λm=>
 Option.bind (cond m (Option.bind (CD N a.Speed 0 a.Positions) λn=>
 some n) (some false)) λo=>
 some o) (
 cond (decide (a.Kind=3)) (
 Option.bind (B7 N a.Num) λp=>
 Option.bind (cond p (Option.bind (CD N a.Den 1 1125899906842624) λq=>
 some q) (some false)) λs=>
 Option.bind (cond s (Option.bind (B7 N a.Prime) λt=>
 some t) (some false)) λu=>
 Option.bind (cond u (Option.bind (B7 N a.Break) λv=>
 some v) (some false)) λw=>
 some (w&&(decide (a.Break<a.Prime)))) (
 Option.bind (B7 N a.Num) λx=>
 Option.bind (cond x (Option.bind (CD N a.Den 1 1125899906842624) λy=>
 some y) (some false)) λz=>
 Option.bind (cond z (Option.bind (Fu N a.BackNum a.BackDen) λA=>
 some A) (some false)) λB=>
 some (B&&(decide (a.To≠(-1)))))))
def Ga (N:Nat) (a:A7):Option Bool:=
 cond (decide (a.Kind=0)) (
 Option.bind (E0 N a.Rate) λb=>
 Option.bind (cond b (Option.bind (E0 N a.Band.Lo) λc=>
 some c) (some false)) λd=>
 Option.bind (cond d (Option.bind (E0 N a.Band.Hi) λg=>
 some g) (some false)) λi=>
 Option.bind (cond i (Option.bind (Gk N a.Band.Lo a.Rate) λj=>
 some j) (some false)) λk=>
 Option.bind (cond k (Option.bind (Gk N a.Rate a.Band.Hi) λl=>
 some l) (some false)) λm=>
 Option.bind (cond m (Option.bind (CD N a.Positions 0 64) λn=>
 some n) (some false)) λo=>
 Option.bind (cond o (Option.bind (CD N a.Speed 0 a.Positions) λp=>
 some p) (some false)) λq=>
 Option.bind (cond q (Option.bind (B7 N a.Leak) λs=>
 some s) (some false)) λt=>
 Option.bind (cond t (Option.bind (Fu N a.BackNum a.BackDen) λu=>
 some u) (some false)) λv=>
 some (v&&((decide (a.To≠(-1)))||(decide (a.BackDen=0))))) (
 cond (decide (a.Kind=1)) (
 Ec N a (decide (a.Kind=1))) (
 Ec N a (decide (a.Kind=5))))
def GX (N:Nat) (a:A7):Option Bool:=
 cond ((!(decide (a.Kind=0)))&&((((decide (0<(↑a.Rate.length:Int)))||(decide (0<(↑a.Band.Lo.length:Int))))||(decide (0<(↑a.Band.Hi.length:Int))))||(decide (a.Leak≠0)))) (
 some false) (
 cond (((!(decide (a.Kind=0)))&&(decide (a.Kind≠2)))&&((decide (a.Positions≠0))||(decide (a.Speed≠0)))) (
 some false) (
 cond (((decide (a.Kind≠1))&&(decide (a.Kind≠5)))&&(decide (a.Crest≠0))) (
 some false) (
 cond (((decide (a.Kind=0))&&(decide (a.Num≠0)))||(((decide (a.Kind=0))||(decide (a.Kind=2)))&&(decide (a.Den≠0)))) (
 some false) (
 cond ((decide (a.Kind≠3))&&((decide (a.Prime≠0))||(decide (a.Break≠0)))) (
 some false) (
 some (((decide (a.Kind=0))||(decide (a.Kind=4)))||((decide (a.BackNum=0))&&(decide (a.BackDen=0)))))))))
def Et (N:Nat):Option Bool:=
 some true
def DO (N:Nat) (a:AX) (d:Option Bool):Nat→Int→Option Bool
 |0,_=>none
 |t+1,c=>
 cond (decide (c<(↑a.Links.length:Int))) (
 Option.bind (ix a.Links c) λb=>
 Option.bind (CD N b.Kind 0 5) λg=>
 Option.bind (cond (!g) (some true) (Option.bind (EO N b.From (↑a.Places.length:Int)) λi=>
 some (!i))) λj=>
 Option.bind (cond j (some true) (Option.bind (Hs N a b.From b.To) λk=>
 some (!k))) λl=>
 Option.bind (cond l (some true) (Option.bind (CD N b.Delay 0 240) λm=>
 some (!m))) λn=>
 Option.bind (cond n (some true) (Option.bind (Ga N b) λo=>
 some (!o))) λp=>
 Option.bind (cond p (some true) (Option.bind (GX N b) λq=>
 some (!q))) λs=>
 cond s (
 some false) (
 DO N a d t (BD (c+1)))) (
 d)
def G0 (N:Nat) (a:AX):Option Bool:=
 DO N a (Et N) N 0
def It (N:Nat) (c:AX) (a:Int) (b:Int):Option Bool:=
 cond (decide (b=(-1))) (
 some (decide (a=2))) (
 Option.bind (ix c.Places b) λd=>
 some ((decide (d.Office=a))||(decide (d.Office=(BD (a+1))))))
def Cw (N:Nat) (a:AX) (g:Option Bool):Nat→Int→Option Bool
 |0,_=>none
 |m+1,d=>
 cond (decide (d<(↑a.Links.length:Int))) (
 Option.bind (ix a.Links d) λb=>
 Option.bind (ix a.Places b.From) λc=>
 Option.bind (It N a c.Office b.To) λi=>
 Option.bind (cond (!i) (some true) (Option.bind (cond (decide (b.Kind=4)) (Option.bind (ix a.Places b.To) λj=>
 some (decide (j.Office≠c.Office))) (some false)) λk=>
 some k)) λl=>
 cond l (
 some false) (
 Cw N a g m (BD (d+1)))) (
 g)
def EG (N:Nat):Option Bool:=
 some true
def Cy (N:Nat) (a:AX):Option Bool:=
 Cw N a (EG N) N 0
def Cx (N:Nat) (a:AX) (c:Option Bool):Nat→Int→Option Bool
 |0,_=>none
 |i+1,b=>
 cond (decide (b<(↑a.Places.length:Int))) (
 Option.bind (ix a.Places b) λd=>
 Option.bind (It N a d.Office d.Down) λg=>
 cond (!g) (
 some false) (
 Cx N a c i (BD (b+1)))) (
 c)
def GG (N:Nat) (a:AX):Option Bool:=
 Cx N a (Cy N a) N 0
def Is (N:Nat) (a:Int):Option Int:=
 some (BD a)
def E2 (N:Nat) (b:Int) (a:Int):Option Int:=
 cond (decide (a=0)) (
 some 0) (
 cond (decide (a<b)) (
 some 1099511627777) (
 Option.bind (GN N (IntKind.wrap .u64 b) 1099511627776) λd=>
 Option.bind (Eo N d.1 d.2 (IntKind.wrap .u64 a)) λc=>
 cond (decide (c.2≠0)) (
 Is N (IntKind.wrap .u64 (c.1+1))) (
 Is N c.1)))
def DV (N:Nat) (a:Int):Option Int:=
 some a
def D2 (N:Nat) (a:(List BS)) (c:Int→Option Int):Nat→Int→Int→Option Int
 |0,_,_=>none
 |m+1,d,b=>
 cond (decide (b<(↑a.length:Int))) (
 Option.bind (ix a b) λg=>
 Option.bind (ix a (BD (b-1))) λi=>
 Option.bind (ix a b) λj=>
 Option.bind (ix a (BD (b-1))) λk=>
 Option.bind (E2 N (BD (g.Y-i.Y)) (BD (j.X-k.X))) λl=>
 D2 N a c m (max d l) (BD (b+1))) (
 c d)
def Ej (N:Nat) (a:Int) (b:Int→Int→Option Int) (c:Int):Option Int:=
 b c (BD (a+1))
def Ca (N:Nat) (a:(List (List BS))) (c:Int→Option Int):Nat→Int→Int→Option Int
 |0,_,_=>none
 |i+1,g,b=>
 cond (decide (b<(↑a.length:Int))) (
 Option.bind (ix a b) λd=>
 D2 N d (Ej N b (Ca N a c i)) N g 1) (
 c g)
def Ht (N:Nat) (a:(List (List BS))):Option Int:=
 Ca N a (DV N) N 0 0
def B9 (N:Nat) (b:Int) (c:Int→(List Int)→Option Bool) (a:List Int):Option Bool:=
 c (BD (b+1)) a
def C9 (N:Nat) (b:List Int) (a:A7) (g:(List Int)→Option Bool) (i:Bool):Option Bool:=
 cond i (
 Option.bind (ix b a.From) λn=>
 Option.bind (ix b a.From) λj=>
 Option.bind (E2 N a.Num a.Den) λk=>
 Option.bind (ix b a.From) λo=>
 Option.bind (ix b a.From) λp=>
 g (upd b a.From (BD (j+k)))) (
 cond (decide (a.Kind=4)) (
 Option.bind (ix b a.From) λq=>
 Option.bind (ix b a.From) λc=>
 Option.bind (E2 N a.Num a.Den) λd=>
 Option.bind (ix b a.From) λs=>
 Option.bind (ix b a.From) λt=>
 Option.bind (ix (upd b a.From (BD (c+(BD (2*d))))) a.To) λu=>
 Option.bind (ix (upd b a.From (BD (c+(BD (2*d))))) a.To) λl=>
 Option.bind (E2 N a.BackNum a.BackDen) λm=>
 Option.bind (ix (upd b a.From (BD (c+(BD (2*d))))) a.To) λv=>
 Option.bind (ix (upd b a.From (BD (c+(BD (2*d))))) a.To) λw=>
 g (upd (upd b a.From (BD (c+(BD (2*d))))) a.To (BD (l+(BD (2*m)))))) (
 g b))
def Gd (N:Nat) (b:Bool→Option Bool) (a:Bool):Option Bool:=
 b a
def BR (N:Nat) (c:AX) (j:(List Int)→Option Bool):Nat→Int→(List Int)→Option Bool
 |0,_,_=>none
 |k+1,i,b=>
 cond (decide (i<(↑c.Links.length:Int))) (
 Option.bind (ix c.Links i) λa=>
 cond (decide (a.Kind=0)) (
 Option.bind (ix b a.From) λn=>
 Option.bind (ix b a.From) λd=>
 Option.bind (Ht N ([a.Rate,a.Band.Lo,a.Band.Hi]:List (List BS))) λg=>
 Option.bind (ix b a.From) λo=>
 Option.bind (ix b a.From) λp=>
 cond (decide (a.To≠(-1))) (
 Option.bind (ix (upd b a.From (BD (d+g))) a.To) λq=>
 Option.bind (ix (upd b a.From (BD (d+g))) a.To) λl=>
 Option.bind (E2 N a.BackNum a.BackDen) λm=>
 Option.bind (ix (upd b a.From (BD (d+g))) a.To) λs=>
 Option.bind (ix (upd b a.From (BD (d+g))) a.To) λt=>
 B9 N i (BR N c j k) (upd (upd b a.From (BD (d+g))) a.To (BD (l+m)))) (
 B9 N i (BR N c j k) (upd b a.From (BD (d+g))))) (
 cond (decide (a.Kind=1)) (
 C9 N b a (B9 N i (BR N c j k)) (decide (a.Kind=1))) (
 cond (decide (a.Kind=5)) (
 Gd N (C9 N b a (B9 N i (BR N c j k))) (decide (a.Kind=5))) (
 Gd N (C9 N b a (B9 N i (BR N c j k))) (decide (a.Kind=3)))))) (
 j b)
def C7 (N:Nat) (b:List Int) (c:Option Bool):Nat→Int→Option Bool
 |0,_=>none
 |i+1,a=>
 cond (decide (a<(↑b.length:Int))) (
 Option.bind (ix b a) λg=>
 Option.bind (ix b a) λd=>
 cond (decide (1099511627776<d)) (
 some false) (
 C7 N b c i (BD (a+1)))) (
 c)
def Ea (N:Nat):Option Bool:=
 some true
def CH (N:Nat) (a:List Int):Option Bool:=
 C7 N a (Ea N) N 0
def DA (N:Nat) (a:AX) (b:List Int):Option Bool:=
 BR N a (CH N) N 0 b
def C8 (N:Nat) (b:AX) (d:(List Int)→Option Bool):Nat→Int→(List Int)→Option Bool
 |0,_,_=>none
 |j+1,a,c=>
 cond (decide (a<(↑b.Places.length:Int))) (
 Option.bind (ix b.Places a) λg=>
 Option.bind (E2 N g.Num g.Den) λi=>
 Option.bind (ix c a) λk=>
 Option.bind (ix c a) λl=>
 C8 N b d j (BD (a+1)) (upd c a i)) (
 d c)
def GY (N:Nat) (a:AX):Option Bool:=
 chk (JQ (↑a.Places.length:Int) (↑a.Places.length:Int) 8) <|
 C8 N a (DA N a) N 0 (List.replicate ((↑a.Places.length:Int):Int).toNat (0:Int))
def DK (N:Nat) (a:AX) (c:Option Bool):Nat→Int→Option Bool
 |0,_=>none
 |i+1,b=>
 cond (decide (b<(↑a.Shelters.length:Int))) (
 Option.bind (ix a.Shelters b) λd=>
 Option.bind (CD N d.Room 0 1073741824) λg=>
 cond (!g) (
 some false) (
 DK N a c i (BD (b+1)))) (
 c)
def Er (N:Nat):Option Bool:=
 some true
def DM (N:Nat) (a:AX):Option Bool:=
 DK N a (Er N) N 0
def DL (N:Nat) (a:AX) (d:Option Bool):Nat→Int→Option Bool
 |0,_=>none
 |t+1,c=>
 cond (decide (c<(↑a.Towns.length:Int))) (
 Option.bind (ix a.Towns c) λb=>
 Option.bind (EO N b.Place (↑a.Places.length:Int)) λg=>
 Option.bind (cond (!g) (some true) (Option.bind (B7 N b.Flood) λi=>
 some (!i))) λj=>
 Option.bind (cond j (some true) (Option.bind (CD N b.Lead 0 24) λk=>
 some (!k))) λl=>
 Option.bind (cond l (some true) (Option.bind (CD N b.People 0 1073741824) λm=>
 some (!m))) λn=>
 Option.bind (cond n (some true) (Option.bind (B7 N b.Watch) λo=>
 some (!o))) λp=>
 Option.bind (cond p (some true) (Option.bind (CD N b.Quorum 0 128) λq=>
 some (!q))) λs=>
 cond s (
 some false) (
 DL N a d t (BD (c+1)))) (
 d)
def Gy (N:Nat) (a:AX):Option Bool:=
 DL N a (DM N a) N 0
def Eb (N:Nat):Option Bool:=
 some true
def DB (N:Nat) (a:AX) (d:Option Bool):Nat→Int→Option Bool
 |0,_=>none
 |o+1,c=>
 cond (decide (c<(↑a.Gauges.length:Int))) (
 Option.bind (ix a.Gauges c) λb=>
 Option.bind (CD N b.Kind 0 2) λg=>
 Option.bind (cond (!g) (some true) (Option.bind (CD N b.Err 0 1099511627776) λi=>
 some (!i))) λj=>
 Option.bind (cond j (some true) (Option.bind (CD N b.Drift 0 1440) λk=>
 some (!k))) λl=>
 cond l (
 some false) (
 Option.bind (ix ([(↑a.Places.length:Int),a.Cells,(↑a.Links.length:Int)]:List Int) b.Kind) λm=>
 Option.bind (EO N b.Target m) λn=>
 cond (!n) (
 some false) (
 DB N a d o (BD (c+1))))) (
 d)
def GZ (N:Nat) (a:AX):Option Bool:=
 DB N a (Eb N) N 0
def Es (N:Nat):Option Bool:=
 some true
def DN (N:Nat) (a:AX) (d:Option Bool):Nat→Int→Option Bool
 |0,_=>none
 |u+1,c=>
 cond (decide (c<(↑a.Roads.length:Int))) (
 Option.bind (ix a.Roads c) λb=>
 Option.bind (EO N b.From (↑a.Towns.length:Int)) λg=>
 Option.bind (cond (!g) (some true) (Option.bind (EO N b.To (BD ((↑a.Towns.length:Int)+(↑a.Shelters.length:Int)))) λi=>
 some (!i))) λj=>
 Option.bind (cond (j||(decide (b.From=b.To))) (some true) (Option.bind (CD N b.Hours 1 24) λk=>
 some (!k))) λl=>
 Option.bind (cond l (some true) (Option.bind (CD N b.Flow 0 1073741824) λm=>
 some (!m))) λn=>
 Option.bind (cond n (some true) (Option.bind (B7 N b.Limit) λo=>
 some (!o))) λp=>
 cond p (
 some false) (
 Option.bind (cond ((decide (b.By=(-1)))&&(decide (b.Limit≠0))) (some true) (Option.bind (cond (decide (b.By≠(-1))) (Option.bind (EO N b.By (↑a.Places.length:Int)) λq=>
 some (!q)) (some false)) λs=>
 some s)) λt=>
 cond t (
 some false) (
 DN N a d u (BD (c+1))))) (
 d)
def Gz (N:Nat) (a:AX):Option Bool:=
 DN N a (Es N) N 0
def IL (N:Nat) (a:AX):Option Bool:=
 Option.bind (HV N a) λv=>
 Option.bind (cond v (Option.bind (H5 N a) λb=>
 some b) (some false)) λc=>
 Option.bind (cond c (Option.bind (Hb N a) λd=>
 some d) (some false)) λg=>
 Option.bind (cond g (Option.bind (G0 N a) λi=>
 some i) (some false)) λj=>
 Option.bind (cond j (Option.bind (GG N a) λk=>
 some k) (some false)) λl=>
 Option.bind (cond l (Option.bind (GY N a) λm=>
 some m) (some false)) λn=>
 Option.bind (cond n (Option.bind (Gy N a) λo=>
 some o) (some false)) λp=>
 Option.bind (cond p (Option.bind (GZ N a) λq=>
 some q) (some false)) λs=>
 Option.bind (cond s (Option.bind (Gz N a) λt=>
 some t) (some false)) λu=>
 some u
def Fi (N:Nat):Option Bool:=
 some true
def Dy (N:Nat) (a:(List Int)) (c:Option Bool):Nat→Int→Int→Option Bool
 |0,_,_=>none
 |i+1,g,d=>
 cond (decide (d<(↑a.length:Int))) (
 Option.bind (ix a d) λb=>
 cond ((decide (b<0))||(decide ((BD (1125899906842624-g))<b))) (
 some false) (
 Dy N a c i (BD (g+b)) (BD (d+1)))) (
 c)
def HT (N:Nat) (a:(List Int)):Option Bool:=
 Dy N a (Fi N) N 0 0
def Ir (N:Nat) (b:(List Int)) (a:Int):Option Bool:=
 Option.bind (cond (((decide (0≤a))&&(decide (a≤16)))&&(decide ((↑b.length:Int)=a))) (Option.bind (HT N b) λc=>
 some c) (some false)) λd=>
 some d
def Fl (N:Nat) (b:Int) (a:Int):Option Int:=
 cond ((decide (0<a))&&(decide ((BD (9223372036854775807-a))<b))) (
 some 9223372036854775807) (
 cond ((decide (a<0))&&(decide (b<(BD ((-9223372036854775808)-a))))) (
 some (-9223372036854775808)) (
 some (BD (b+a))))
def HB (N:Nat) (a:Int):Option Int:=
 some a
def Fj (N:Nat) (a:(List Int)) (c:Int→Option Int):Nat→Int→Int→Option Int
 |0,_,_=>none
 |j+1,i,b=>
 cond (decide (b<(↑a.length:Int))) (
 Option.bind (ix a b) λd=>
 Option.bind (Fl N i d) λg=>
 Fj N a c j g (BD (b+1))) (
 c i)
def Dn (N:Nat) (a:(List Int)):Option Int:=
 Fj N a (HB N) N 0 0
def FW (N:Nat) (b:Int) (a:Int):Option Bool:=
 some ((decide (0≤b))&&(decide (b<a)))
def FB (N:Nat) (b:AX) (a:Aj) (j:Int→Option (Int×Bool)):Nat→Int→Int→Option (Int×Bool)
 |0,_,_=>none
 |o+1,g,i=>
 cond (decide (i<(↑a.Queue.length:Int))) (
 Option.bind (ix a.Queue i) λd=>
 Option.bind (cond (decide (d.At<a.Hour)) (some true) (Option.bind (FW N d.To (↑b.Places.length:Int)) λk=>
 some (!k))) λl=>
 Option.bind (cond l (some true) (Option.bind (Ir N d.Part (↑b.Owners.length:Int)) λm=>
 some (!m))) λn=>
 cond n (
 some (0,false)) (
 Option.bind (Dn N d.Part) λc=>
 cond ((decide (c≤0))||(decide (1125899906842624<(BD (g+c))))) (
 some (0,false)) (
 FB N b a j o (BD (g+c)) (BD (i+1))))) (
 j g)
def Gp (N:Nat) (a:Int):Option (Int×Bool):=
 some (a,true)
def ES (N:Nat) (a:AX) (b:Aj) (c:Int):Option (Int×Bool):=
 FB N a b (Gp N) N c 0
def ER (N:Nat) (b:AX) (a:Aj) (g:Int→Option (Int×Bool)):Nat→Int→Int→Option (Int×Bool)
 |0,_,_=>none
 |l+1,c,d=>
 cond (decide (d<(↑a.Own.length:Int))) (
 Option.bind (ix a.Own d) λi=>
 Option.bind (Ir N i (↑b.Owners.length:Int)) λk=>
 cond (!k) (
 some (0,false)) (
 Option.bind (Dn N i) λj=>
 cond (decide (1125899906842624<(BD (c+j)))) (
 some (0,false)) (
 ER N b a g l (BD (c+j)) (BD (d+1))))) (
 g c)
def I6 (N:Nat) (a:AX) (b:Aj):Option (Int×Bool):=
 ER N a b (ES N a b) N 0 0
def GL (N:Nat) (a:Int):Option (Int×Bool):=
 some (a,true)
def El (N:Nat) (b:(List Int)) (a:Int) (g:Int→Option (Int×Bool)):Nat→Int→Int→Option (Int×Bool)
 |0,_,_=>none
 |j+1,i,c=>
 cond (decide (c<(↑b.length:Int))) (
 Option.bind (ix b c) λd=>
 cond ((decide (d<0))||(decide ((BD (a-i))<d))) (
 some (0,false)) (
 El N b a g j (BD (i+d)) (BD (c+1)))) (
 g i)
def Hj (N:Nat) (b:(List Int)) (a:Int):Option (Int×Bool):=
 El N b a (GL N) N 0 0
def E5 (N:Nat) (d:AX) (g:Aj) (i:Option Bool):Nat→Int→Option Bool
 |0,_=>none
 |j+1,b=>
 cond (decide (b<(↑d.Links.length:Int))) (
 Option.bind (ix d.Links b) λc=>
 Option.bind (ix g.Gates b) λa=>
 cond ((((decide (a.Pos<0))||(decide (c.Positions<a.Pos)))||(decide (a.Target<0)))||(decide (c.Positions<a.Target))) (
 some false) (
 cond ((a.Open&&(decide (c.Kind≠5)))&&(decide (c.Kind≠3))) (
 some false) (
 E5 N d g i j (BD (b+1))))) (
 i)
def E7 (N:Nat) (d:AX) (a:Aj):Option Bool:=
 Option.bind (I6 N d a) λb=>
 cond (!b.2) (
 some false) (
 Option.bind (Hj N a.In 1152921504606846976) λc=>
 cond (!c.2) (
 some false) (
 Option.bind (Hj N a.Out (BD ((BD (c.1+1125899906842624))-b.1))) λg=>
 some g.2))
def E8 (N:Nat) (a:AX) (b:Aj):Option Bool:=
 E5 N a b (E7 N a b) N 0
def E6 (N:Nat) (a:AX) (b:Aj) (d:Option Bool):Nat→Int→Option Bool
 |0,_=>none
 |l+1,c=>
 cond (decide (c<(↑a.Places.length:Int))) (
 Option.bind (ix a.Places c) λk=>
 Option.bind (ix b.Rem c) λg=>
 Option.bind (cond (decide (g<0)) (some true) (Option.bind (ix b.Rem c) λi=>
 some (decide ((max 0 (BD (k.Den-1)))<i)))) λj=>
 cond j (
 some false) (
 E6 N a b d l (BD (c+1)))) (
 d)
def H2 (N:Nat) (b:AX) (a:Aj):Option Bool:=
 cond (((((((decide (a.Hour<0))||(decide (16777216<a.Hour)))||(decide ((↑a.Own.length:Int)≠(↑b.Places.length:Int))))||(decide ((↑a.Rem.length:Int)≠(↑b.Places.length:Int))))||(decide ((↑a.Gates.length:Int)≠(↑b.Links.length:Int))))||(decide ((↑a.In.length:Int)≠(↑b.Owners.length:Int))))||(decide ((↑a.Out.length:Int)≠(↑b.Owners.length:Int)))) (
 some false) (
 E6 N b a (E8 N b a) N 0)
def B6 (N:Nat) (a:(List Ax)):Option (List Ax):=
 chk (Jk (([]:List Ax).length+a.length) 24) <|
 some (([]:List Ax)++a)
def EU (N:Nat) (a:Aj) (d:List (List Int)):Option Aj:=
 Option.bind (CG N a.Rem) λg=>
 Option.bind (B6 N a.Gates) λi=>
 Option.bind (CG N a.In) λb=>
 Option.bind (CG N a.Out) λc=>
 some (⟨a.Hour,d,g,a.Queue,i,b,c⟩:Aj)
def ET (N:Nat) (b:Aj) (d:(List (List Int))→Option Aj):Nat→Int→(List (List Int))→Option Aj
 |0,_,_=>none
 |j+1,a,c=>
 cond (decide (a<(↑b.Own.length:Int))) (
 Option.bind (ix b.Own a) λg=>
 Option.bind (CG N g) λi=>
 Option.bind (ix c a) λk=>
 Option.bind (ix c a) λl=>
 ET N b d j (BD (a+1)) (upd c a i)) (
 d c)
def I7 (N:Nat) (a:Aj):Option Aj:=
 chk (JQ (↑a.Own.length:Int) (↑a.Own.length:Int) 24) <|
 ET N a (EU N a) N 0 (List.replicate ((↑a.Own.length:Int):Int).toNat ([]:(List Int)))
def Fk (N:Nat) (a:Ax) (b:Bool) (c:Bool):Option Ax:=
 some (⟨a.Pos,a.Target,b,c⟩:Ax)
def HC (N:Nat) (d:A7) (a:Ax) (b:Int) (c:Bool→Bool→Option Ax) (g:Bool):Option Ax:=
 cond g (
 cond (decide (d.Kind=5)) (
 c a.Stuck (decide (b=2))) (
 c a.Stuck a.Open)) (
 c a.Stuck a.Open)
def H3 (N:Nat) (c:A7) (b:Ax) (a:Int):Option Ax:=
 cond (decide (a=0)) (
 Fk N b true b.Open) (
 cond (decide (a=1)) (
 Fk N b false b.Open) (
 cond (decide (a=2)) (
 HC N c b a (Fk N b) (decide (a=2))) (
 HC N c b a (Fk N b) (decide (a=3)))))
def Gj (N:Nat) (c:Int) (b:Int) (a:Int):Option Int:=
 cond (decide (c<b)) (
 some b) (
 cond (decide (a<c)) (
 some a) (
 some c))
def J0 (N:Nat) (a:Ax) (b:Int):Option Ax:=
 some ({ a with Target:=b}:Ax)
def JM (N:Nat) (c:A7) (b:Ax) (a:Int):Option Ax:=
 cond (decide (c.Positions≠0)) (
 Option.bind (Gj N a 0 c.Positions) λd=>
 J0 N b d) (
 J0 N b b.Target)
def Gi (N:Nat) (b:Int) (a:Int):Option Int:=
 cond ((decide (a<0))&&(decide ((BD (9223372036854775807+a))<b))) (
 some 9223372036854775807) (
 cond ((decide (0<a))&&(decide (b<(BD ((-9223372036854775808)+a))))) (
 some (-9223372036854775808)) (
 some (BD (b-a))))
def Ig (N:Nat) (b:A7) (a:Ax):Option Ax:=
 cond a.Stuck (
 some a) (
 Option.bind (Gi N a.Target a.Pos) λc=>
 Option.bind (Gi N 0 b.Speed) λd=>
 Option.bind (Gj N c d b.Speed) λg=>
 Option.bind (Fl N a.Pos g) λi=>
 some ({ a with Pos:=i}:Ax))
def GB (N:Nat) (a:Int) (b:Int→(List Ax)→Option (List Ax)) (c:List Ax):Option (List Ax):=
 b (BD (a+1)) c
def CS (N:Nat) (p0_w:Aq) (g:(List Ax)→Option (List Ax)):Nat→Int→(List Ax)→Option (List Ax)
 |0,_,_=>none
 |m+1,d,c=>
 cond (decide (d<(↑p0_w.in_.Cmds.length:Int))) (
 Option.bind (ix p0_w.in_.Cmds d) λa=>
 Option.bind (FW N a.Link (↑p0_w.b.Links.length:Int)) λi=>
 cond i (
 Option.bind (ix p0_w.b.Links a.Link) λj=>
 Option.bind (ix c a.Link) λn=>
 Option.bind (ix c a.Link) λk=>
 Option.bind (JM N j k a.Target) λl=>
 Option.bind (ix c a.Link) λo=>
 Option.bind (ix c a.Link) λp=>
 GB N d (CS N p0_w g m) (upd c a.Link l)) (
 GB N d (CS N p0_w g m) c)) (
 g c)
def Dd (N:Nat) (p0_w:Aq):Nat→Int→(List Ax)→Option (List Ax)
 |0,_,_=>none
 |m+1,a,c=>
 cond (decide (a<(↑p0_w.b.Links.length:Int))) (
 Option.bind (ix p0_w.b.Links a) λd=>
 Option.bind (ix c a) λj=>
 Option.bind (ix c a) λg=>
 Option.bind (Ig N d g) λi=>
 Option.bind (ix c a) λk=>
 Option.bind (ix c a) λl=>
 Dd N p0_w m (BD (a+1)) (upd c a i)) (
 some c)
def Cg (N:Nat) (p0_w:Aq) (a:List Ax):Option (List Ax):=
 Dd N p0_w N 0 a
def Ch (N:Nat) (p0_w:Aq) (a:List Ax):Option (List Ax):=
 CS N p0_w (Cg N p0_w) N 0 a
def GC (N:Nat) (c:Int) (a:Int→(List Ax)→Option (List Ax)) (b:List Ax):Option (List Ax):=
 a (BD (c+1)) b
def CT (N:Nat) (p0_w:Aq) (c:(List Ax)→Option (List Ax)):Nat→Int→(List Ax)→Option (List Ax)
 |0,_,_=>none
 |m+1,g,d=>
 cond (decide (g<(↑p0_w.in_.Faults.length:Int))) (
 Option.bind (ix p0_w.in_.Faults g) λa=>
 Option.bind (FW N a.Link (↑p0_w.b.Links.length:Int)) λi=>
 cond i (
 Option.bind (ix p0_w.b.Links a.Link) λj=>
 Option.bind (ix d a.Link) λn=>
 Option.bind (ix d a.Link) λk=>
 Option.bind (H3 N j k a.Kind) λl=>
 Option.bind (ix d a.Link) λo=>
 Option.bind (ix d a.Link) λp=>
 GC N g (CT N p0_w c m) (upd d a.Link l)) (
 GC N g (CT N p0_w c m) d)) (
 c d)
def HO (N:Nat) (p0_w:Aq):Option (List Ax):=
 CT N p0_w (Ch N p0_w) N 0 p0_w.s.Gates
def Kr (N:Nat) (b:(List Int)) (a:Int):Option Int:=
 Option.bind (cond ((decide (a<0))||(decide ((↑b.length:Int)≤a))) (some true) (Option.bind (ix b a) λd=>
 some (decide (d<0)))) λg=>
 cond g (
 some 0) (
 Option.bind (ix b a) λc=>
 some c)
def Ja (N:Nat) (a:List Int):Option (List Int):=
 some a
def Ma (N:Nat) (a:(List Int)) (b:Int) (c:Int) (d:Int):Option (List Int):=
 chk (JQ (↑a.length:Int) (↑a.length:Int) 8) <|
 Option.bind (Kr N a b) λg=>
 cond ((((decide (0<(min d g)))&&(decide (0≤c)))&&(decide (c<(↑a.length:Int))))&&(decide (b≠c))) (
 Option.bind (ix (M3 (List.replicate ((↑a.length:Int):Int).toNat (0:Int)) a) b) λl=>
 Option.bind (ix (M3 (List.replicate ((↑a.length:Int):Int).toNat (0:Int)) a) b) λi=>
 Option.bind (ix (M3 (List.replicate ((↑a.length:Int):Int).toNat (0:Int)) a) b) λm=>
 Option.bind (ix (M3 (List.replicate ((↑a.length:Int):Int).toNat (0:Int)) a) b) λn=>
 Option.bind (ix (upd (M3 (List.replicate ((↑a.length:Int):Int).toNat (0:Int)) a) b (BD (i-(min d g)))) c) λo=>
 Option.bind (ix (upd (M3 (List.replicate ((↑a.length:Int):Int).toNat (0:Int)) a) b (BD (i-(min d g)))) c) λj=>
 Option.bind (Fl N j (min d g)) λk=>
 Option.bind (ix (upd (M3 (List.replicate ((↑a.length:Int):Int).toNat (0:Int)) a) b (BD (i-(min d g)))) c) λp=>
 Option.bind (ix (upd (M3 (List.replicate ((↑a.length:Int):Int).toNat (0:Int)) a) b (BD (i-(min d g)))) c) λq=>
 Ja N (upd (upd (M3 (List.replicate ((↑a.length:Int):Int).toNat (0:Int)) a) b (BD (i-(min d g)))) c k)) (
 Ja N (M3 (List.replicate ((↑a.length:Int):Int).toNat (0:Int)) a))
def HM (N:Nat) (c:Int) (a:Int→(List (List Int))→Option (List (List Int))) (b:List (List Int)):Option (List (List Int)):=
 a (BD (c+1)) b
def Dc (N:Nat) (p0_w:Aq):Nat→Int→(List (List Int))→Option (List (List Int))
 |0,_,_=>none
 |o+1,d,c=>
 cond (decide (d<(↑p0_w.in_.Swaps.length:Int))) (
 Option.bind (ix p0_w.in_.Swaps d) λa=>
 Option.bind (FW N a.Place (↑p0_w.b.Places.length:Int)) λg=>
 Option.bind (cond g (Option.bind (FW N a.From (↑p0_w.b.Owners.length:Int)) λi=>
 some i) (some false)) λj=>
 Option.bind (cond j (Option.bind (FW N a.To (↑p0_w.b.Owners.length:Int)) λk=>
 some k) (some false)) λl=>
 cond l (
 Option.bind (ix c a.Place) λq=>
 Option.bind (ix c a.Place) λm=>
 Option.bind (Ma N m a.From a.To a.Litres) λn=>
 Option.bind (ix c a.Place) λs=>
 Option.bind (ix c a.Place) λp=>
 HM N d (Dc N p0_w o) (upd c a.Place n)) (
 HM N d (Dc N p0_w o) c)) (
 some c)
def HN (N:Nat) (p0_w:Aq):Option (List (List Int)):=
 Dc N p0_w N 0 p0_w.s.Own
def DQ (N:Nat) (p0_w:Aq) (b:Int→Option ((List (List Int))×(List Int)×(List Ak))):Nat→Int→Int→Option ((List (List Int))×(List Int)×(List Ak))
 |0,_,_=>none
 |i+1,c,a=>
 cond (decide (a<(↑p0_w.s.Queue.length:Int))) (
 Option.bind (ix p0_w.s.Queue a) λd=>
 Option.bind (Dn N d.Part) λg=>
 DQ N p0_w b i (BD (c+g)) (BD (a+1))) (
 b c)
def Ff (N:Nat) (p0_w:Aq) (k:Int) (l:Int) (d:Int) (i:List Ak) (g:List (List Int)) (c:List Int) (m:Int→Int→(List Ak)→(List (List Int))→(List Int)→Option ((List (List Int))×(List Int)×(List Ak))) (a:Int):Option ((List (List Int))×(List Int)×(List Ak)):=
 cond (decide (a≤0)) (
 m k l i g c) (
 Option.bind (ix g d) λp=>
 Option.bind (ix g d) λj=>
 Option.bind (ix j 0) λn=>
 Option.bind (ix j 0) λq=>
 Option.bind (ix c 0) λt=>
 Option.bind (ix c 0) λo=>
 Option.bind (ix c 0) λu=>
 Option.bind (ix c 0) λv=>
 chk (JQ (↑p0_w.b.Owners.length:Int) (↑p0_w.b.Owners.length:Int) 8) <|
 Option.bind (ix (List.replicate ((↑p0_w.b.Owners.length:Int):Int).toNat (0:Int)) 0) λw=>
 Option.bind (ix (List.replicate ((↑p0_w.b.Owners.length:Int):Int).toNat (0:Int)) 0) λx=>
 chk (Jk (i.length+([(⟨p0_w.s.Hour,(-1),d,(-4),(upd (List.replicate ((↑p0_w.b.Owners.length:Int):Int).toNat (0:Int)) 0 a)⟩:Ak)]:List Ak).length) 56) <|
 m (BD (k+a)) (BD (l+a)) (i++([(⟨p0_w.s.Hour,(-1),d,(-4),(upd (List.replicate ((↑p0_w.b.Owners.length:Int):Int).toNat (0:Int)) 0 a)⟩:Ak)]:List Ak)) (upd g d (upd j 0 (BD (n+a)))) (upd c 0 (BD (o+a))))
def Ei (N:Nat) (a:Int) (j:Int→Int→Int→(List Ak)→(List (List Int))→(List Int)→Option ((List (List Int))×(List Int)×(List Ak))) (b:Int) (c:Int) (d:List Ak) (g:List (List Int)) (i:List Int):Option ((List (List Int))×(List Int)×(List Ak)):=
 j b c (BD (a+1)) d g i
def CJ (N:Nat) (p0_w:Aq):Nat→Int→Int→Int→(List Ak)→(List (List Int))→(List Int)→Option ((List (List Int))×(List Int)×(List Ak))
 |0,_,_,_,_,_,_=>none
 |l+1,c,d,a,g,i,j=>
 cond (decide (a<(↑p0_w.b.Places.length:Int))) (
 cond (decide (a<(↑p0_w.in_.Rain.length:Int))) (
 Option.bind (ix p0_w.in_.Rain a) λk=>
 Ff N p0_w c d a g i j (Ei N a (CJ N p0_w l)) (min (min k (BD (1125899906842624-c))) (BD (1152921504606846976-d)))) (
 Ff N p0_w c d a g i j (Ei N a (CJ N p0_w l)) 0)) (
 some (i,j,g))
def DT (N:Nat) (p0_w:Aq) (a:Int):Option ((List (List Int))×(List Int)×(List Ak)):=
 Option.bind (Dn N p0_w.s.In) λb=>
 CJ N p0_w N a b 0 p0_w.moves p0_w.s.Own p0_w.s.In
def DU (N:Nat) (p0_w:Aq) (a:Int):Option ((List (List Int))×(List Int)×(List Ak)):=
 DQ N p0_w (DT N p0_w) N a 0
def DR (N:Nat) (p0_w:Aq) (b:Int→Option ((List (List Int))×(List Int)×(List Ak))):Nat→Int→Int→Option ((List (List Int))×(List Int)×(List Ak))
 |0,_,_=>none
 |i+1,g,a=>
 cond (decide (a<(↑p0_w.s.Own.length:Int))) (
 Option.bind (ix p0_w.s.Own a) λj=>
 Option.bind (ix p0_w.s.Own a) λc=>
 Option.bind (Dn N c) λd=>
 DR N p0_w b i (BD (g+d)) (BD (a+1))) (
 b g)
def Hk (N:Nat) (p0_w:Aq):Option ((List (List Int))×(List Int)×(List Ak)):=
 DR N p0_w (DU N p0_w) N 0 0
def Gg (N:Nat) (a:List Int):Option (List Int):=
 some a
def Ey (N:Nat) (c:(List Int)) (d:(List Int)→Option (List Int)):Nat→Int→(List Int)→Option (List Int)
 |0,_,_=>none
 |k+1,a,b=>
 cond (decide (a<(↑c.length:Int))) (
 Option.bind (ix c a) λg=>
 Option.bind (ix b a) λl=>
 Option.bind (ix b a) λi=>
 Option.bind (Fl N i g) λj=>
 Option.bind (ix b a) λm=>
 Option.bind (ix b a) λn=>
 Ey N c d k (BD (a+1)) (upd b a j)) (
 d b)
def DD (N:Nat) (a:(List Int)) (b:(List Int)):Option (List Int):=
 chk (JQ (max (↑a.length:Int) (↑b.length:Int)) (max (↑a.length:Int) (↑b.length:Int)) 8) <|
 Ey N b (Gg N) N 0 (M3 (List.replicate ((max (↑a.length:Int) (↑b.length:Int)):Int).toNat (0:Int)) a)
def Ie (N:Nat) (a:Int) (b:(List Al)→Int→(List (List Int))→Option ((List (List Int))×(List Al))) (c:List Al) (d:List (List Int)):Option ((List (List Int))×(List Al)):=
 b c (BD (a+1)) d
def Ex (N:Nat) (d:(List Al)) (b:Int) (n:Int) (k:(List Al)→(List (List Int))→Option ((List (List Int))×(List Al))):Nat→(List Al)→Int→(List (List Int))→Option ((List (List Int))×(List Al))
 |0,_,_,_=>none
 |o+1,g,i,c=>
 cond (decide (i<(↑d.length:Int))) (
 Option.bind (ix d i) λa=>
 cond (((decide (a.At≤b))&&(decide (0≤a.To)))&&(decide (a.To<n))) (
 Option.bind (ix c a.To) λp=>
 Option.bind (ix c a.To) λl=>
 Option.bind (DD N l a.Part) λm=>
 Option.bind (ix c a.To) λq=>
 Option.bind (ix c a.To) λs=>
 Ie N i (Ex N d b n k o) g (upd c a.To m)) (
 Option.bind (CG N a.Part) λj=>
 chk (Jk (g.length+([({ a with Part:=j}:Al)]:List Al).length) 40) <|
 Ie N i (Ex N d b n k o) (g++([({ a with Part:=j}:Al)]:List Al)) c)) (
 k g c)
def Gw (N:Nat) (a:List Al) (b:List (List Int)):Option ((List (List Int))×(List Al)):=
 some (b,a)
def Fa (N:Nat) (b:(List Al)) (a:Int) (d:Int) (c:List (List Int)):Option ((List (List Int))×(List Al)):=
 Ex N b a d (Gw N) N ([]:List Al) 0 c
def FZ (N:Nat) (g:Int) (d:Int) (c:(List (List Int))→Option ((List (List Int))×(List Al))):Nat→Int→(List (List Int))→Option ((List (List Int))×(List Al))
 |0,_,_=>none
 |i+1,a,b=>
 cond (decide (a<(↑(List.replicate (g:Int).toNat ([]:(List Int))).length:Int))) (
 chk (JQ d d 8) <|
 Option.bind (ix b a) λj=>
 Option.bind (ix b a) λk=>
 FZ N g d c i (BD (a+1)) (upd b a (List.replicate (d:Int).toNat (0:Int)))) (
 c b)
def J7 (N:Nat) (d:(List Al)) (c:Int) (a:Int) (b:Int):Option ((List (List Int))×(List Al)):=
 Option.bind (Gj N a 0 64) λg=>
 Option.bind (Gj N b 0 16) λi=>
 chk (JQ g g 24) <|
 FZ N g i (Fa N d c g) N 0 (List.replicate (g:Int).toNat ([]:(List Int)))
def Hm (N:Nat) (a:Ax) (b:Bool):Option Ax:=
 some ({ a with Open:=b}:Ax)
def HX (N:Nat) (b:A7) (a:Ax) (c:Int):Option Ax:=
 cond (decide (b.Kind≠3)) (
 some a) (
 cond (decide (b.Prime≤c)) (
 Hm N a true) (
 cond (decide (c≤b.Break)) (
 Hm N a false) (
 Hm N a a.Open)))
def FG (N:Nat) (a:Int) (c:Int→(List Ax)→Option ((List (List Int))×(List Al)×(List Ax)×(List Int))) (b:List Ax):Option ((List (List Int))×(List Al)×(List Ax)×(List Int)):=
 c (BD (a+1)) b
def CN (N:Nat) (p0_w:Aq) (j:(List (List Int))×(List Al)) (i:List (List Int)) (d:List Int):Nat→Int→(List Ax)→Option ((List (List Int))×(List Al)×(List Ax)×(List Int))
 |0,_,_=>none
 |n+1,a,c=>
 cond (decide (a<(↑p0_w.b.Links.length:Int))) (
 Option.bind (ix p0_w.b.Links a) λg=>
 cond (decide (g.Kind=3)) (
 Option.bind (ix c a) λo=>
 Option.bind (ix c a) λk=>
 Option.bind (ix d g.From) λp=>
 Option.bind (ix d g.From) λl=>
 Option.bind (HX N g k l) λm=>
 Option.bind (ix c a) λq=>
 Option.bind (ix c a) λs=>
 FG N a (CN N p0_w j i d n) (upd c a m)) (
 FG N a (CN N p0_w j i d n) c)) (
 some (i,j.2,c,d))
def CX (N:Nat) (p0_w:Aq) (c:(List (List Int))×(List Al)) (a:List (List Int)) (b:List Int):Option ((List (List Int))×(List Al)×(List Ax)×(List Int)):=
 CN N p0_w c a b N 0 p0_w.s.Gates
def CW (N:Nat) (p0_w:Aq) (i:(List (List Int))×(List Al)) (j:(List (List Int))→(List Int)→Option ((List (List Int))×(List Al)×(List Ax)×(List Int))):Nat→Int→(List (List Int))→(List Int)→Option ((List (List Int))×(List Al)×(List Ax)×(List Int))
 |0,_,_,_=>none
 |w+1,a,c,d=>
 cond (decide (a<(↑p0_w.b.Places.length:Int))) (
 Option.bind (ix c a) λo=>
 Option.bind (ix c a) λk=>
 Option.bind (ix i.1 a) λp=>
 Option.bind (ix i.1 a) λl=>
 Option.bind (DD N k l) λg=>
 Option.bind (ix c a) λq=>
 Option.bind (ix c a) λs=>
 Option.bind (ix (upd c a g) a) λt=>
 Option.bind (ix (upd c a g) a) λm=>
 Option.bind (Dn N m) λn=>
 Option.bind (ix d a) λu=>
 Option.bind (ix d a) λv=>
 CW N p0_w i j w (BD (a+1)) (upd c a g) (upd d a n)) (
 j c d)
def GE (N:Nat) (p0_w:Aq):Option ((List (List Int))×(List Al)×(List Ax)×(List Int)):=
 Option.bind (J7 N p0_w.s.Queue p0_w.s.Hour (↑p0_w.b.Places.length:Int) (↑p0_w.b.Owners.length:Int)) λa=>
 CW N p0_w a (CX N p0_w a) N 0 p0_w.s.Own p0_w.peaks
def GM (N:Nat) (a:List Int):Option (List Int):=
 some a
def En (N:Nat) (a:(List Int)) (d:(List Int)→Option (List Int)):Nat→Int→(List Int)→Option (List Int)
 |0,_,_=>none
 |j+1,b,c=>
 cond (decide (b<(↑a.length:Int))) (
 Option.bind (ix a b) λg=>
 Option.bind (ix c b) λk=>
 Option.bind (ix c b) λi=>
 Option.bind (ix c b) λl=>
 Option.bind (ix c b) λm=>
 En N a d j (BD (b+1)) (upd c b (BD (i-g)))) (
 d c)
def Gx (N:Nat) (a:(List Int)) (b:(List Int)):Option (List Int):=
 chk (JQ (↑a.length:Int) (↑a.length:Int) 8) <|
 En N b (GM N) N 0 (M3 (List.replicate ((↑a.length:Int):Int).toNat (0:Int)) a)
def Ho (N:Nat) (a:(List Int)) (b:List Int):Option ((List Int)×(List Int)):=
 Option.bind (Gx N a b) λc=>
 some (b,c)
def J9 (N:Nat) (b:(List Int)) (a:Int) (c:Int):Option ((List Int)×(List Int)):=
 chk (JQ (↑b.length:Int) (↑b.length:Int) 8) <|
 Option.bind (Kr N b a) λd=>
 cond (decide (0<(min c d))) (
 Option.bind (ix (List.replicate ((↑b.length:Int):Int).toNat (0:Int)) a) λg=>
 Option.bind (ix (List.replicate ((↑b.length:Int):Int).toNat (0:Int)) a) λi=>
 Ho N b (upd (List.replicate ((↑b.length:Int):Int).toNat (0:Int)) a (min c d))) (
 Ho N b (List.replicate ((↑b.length:Int):Int).toNat (0:Int)))
def DP (N:Nat) (c1_:IT) (a:(List Int)):Option ((List Int)×(List Int)):=
 Option.bind (J9 N a c1_.Owner c1_.Litres) λb=>
 some (b.1,b.2)
def CR (N:Nat) (a:List AL):Option (List AL):=
 some a
def FC (N:Nat) (a:Int) (b:(List AL)→Int→Option (List AL)) (c:List AL):Option (List AL):=
 b c (BD (a+1))
def Bj (N:Nat) (p0_w:Aq) (a:Int) (g:(List AL)→Option (List AL)):Nat→(List AL)→Int→Option (List AL)
 |0,_,_=>none
 |j+1,i,d=>
 cond (decide (d<(↑p0_w.in_.Takes.length:Int))) (
 Option.bind (ix p0_w.in_.Takes d) λc=>
 Option.bind (cond (decide (c.Place≠a)) (some true) (Option.bind (FW N c.Owner (↑p0_w.b.Owners.length:Int)) λk=>
 some (!k))) λl=>
 cond (l||(decide (c.Litres≤0))) (
 FC N d (Bj N p0_w a g j) i) (
 Option.bind (cond (decide (c.To≠(-1))) (Option.bind (FW N c.To (↑p0_w.b.Places.length:Int)) λm=>
 Option.bind (cond (!m) (some true) (Option.bind (ix p0_w.b.Places c.To) λn=>
 Option.bind (ix p0_w.b.Places a) λo=>
 some (decide (n.Office≠o.Office)))) λp=>
 some p) (some false)) λq=>
 cond q (
 FC N d (Bj N p0_w a g j) i) (
 chk (Jk (i.length+1) 32) <|
 FC N d (Bj N p0_w a g j) (i++([(⟨c.To,0,(-3),(λx=>DP N c x)⟩:AL)]:List AL))))) (
 g i)
def HL (N:Nat) (p0_w:Aq) (a:Int):Option (List AL):=
 Bj N p0_w a (CR N) N ([]:List AL) 0
def Gh (N:Nat) (c:Int) (a:Int) (b:Int):Option Int:=
 Option.bind (Ez N c a b) λd=>
 cond (!d.2.2) (
 some 0) (
 some d.1)
def KA (N:Nat) (b:A7) (a:Int) (c:Int):Option Int:=
 cond (decide (b.To=(-1))) (
 some a) (
 Option.bind (Gh N c b.BackNum b.BackDen) λd=>
 Option.bind (Gi N a d) λg=>
 some (max 0 g))
def Kt (N:Nat) (a:(List BS)) (b:Int):Option Int:=
 Option.bind (E0 N a) λc=>
 cond (!c) (
 some 0) (
 Option.bind (HY N a b) λd=>
 some d.1)
def Hq (N:Nat):Option Int:=
 some 0
def Hp (N:Nat) (a:A7) (b:Int):Option Int:=
 Option.bind (Gi N b a.Crest) λd=>
 Option.bind (Gh N (max 0 d) a.Num a.Den) λc=>
 some c
def Je (N:Nat) (a:Bool) (b:Option Int):Option Int:=
 cond (!a) (
 some 0) (
 b)
def Jd (N:Nat) (c:A7) (a:Bool) (b:Int) (d:Option Int):Option Int:=
 cond a (
 Option.bind (Gh N b c.Num c.Den) λg=>
 some g) (
 d)
def Jc (N:Nat) (b:A7) (a:Int):Option Int:=
 Option.bind (Gh N b.Num a b.Positions) λc=>
 some c
def Jb (N:Nat) (a:A7) (c:Int) (g:(List BS)) (b:Int) (d:Int):Option Int:=
 Option.bind (KA N a b d) λi=>
 Option.bind (Kt N g i) λj=>
 Option.bind (Gh N j c a.Positions) λk=>
 Option.bind (Fl N k a.Leak) λl=>
 some l
def KB (N:Nat) (a:A7) (d:Int) (c:Bool) (i:(List BS)) (b:Int) (g:Int):Option Int:=
 cond (decide (a.Kind=0)) (
 Jb N a d i b g) (
 cond (decide (a.Kind=2)) (
 Jc N a d) (
 cond (decide (a.Kind=3)) (
 Jd N a c b (Hq N)) (
 cond (decide (a.Kind=5)) (
 Je N c (Hp N a b)) (
 cond (decide (a.Kind=1)) (
 Hp N a b) (
 Hq N)))))
def Ks (N:Nat) (b:A7) (c:Ax) (a:Int) (d:Int):Option Int:=
 Option.bind (KB N b c.Pos c.Open b.Rate a d) λg=>
 some g
def Fx (N:Nat) (a:Int):Option Int:=
 some a
def EW (N:Nat) (c:Int) (a:(List Int)) (n:Int) (k:Int→(List Int)→(List Int)→(List Int)→Option ((List Int)×Bool)):Nat→Int→Int→(List Int)→(List Int)→(List Int)→Option ((List Int)×Bool)
 |0,_,_,_,_,_=>none
 |v+1,l,b,g,i,j=>
 cond (decide (b<(↑a.length:Int))) (
 Option.bind (ix a b) λm=>
 Option.bind (Ez N c m n) λd=>
 Option.bind (ix j b) λo=>
 Option.bind (ix j b) λp=>
 Option.bind (ix i b) λq=>
 Option.bind (ix i b) λs=>
 Option.bind (ix g b) λt=>
 Option.bind (ix g b) λu=>
 EW N c a n k v (BD (l-d.1)) (BD (b+1)) (upd g b b) (upd i b d.2.1) (upd j b d.1)) (
 k l g i j)
def EV (N:Nat) (c:List Int) (g:(List Int)→Option ((List Int)×Bool)):Nat→Int→(List Int)→Option ((List Int)×Bool)
 |0,_,_=>none
 |m+1,d,a=>
 cond (decide (d<(↑c.length:Int))) (
 Option.bind (ix c d) λb=>
 Option.bind (ix a b) λj=>
 Option.bind (ix a b) λi=>
 Option.bind (ix a b) λk=>
 Option.bind (ix a b) λl=>
 EV N c g m (BD (d+1)) (upd a b (BD (i+1)))) (
 g a)
def Fs (N:Nat) (a:List Int):Option ((List Int)×Bool):=
 some (a,true)
def EY (N:Nat) (c:Int) (d:List Int) (g:List Int) (i:List Int):Option ((List Int)×Bool):=
 Option.bind (Pe d g) λa=>
 Option.bind (hE a c) λb=>
 EV N b (Fs N) N 0 i
def EZ (N:Nat) (b:Int) (a:(List Int)) (c:Int):Option ((List Int)×Bool):=
 cond ((decide (b<0))||(decide (c<b))) (
 some (([]:List Int),false)) (
 chk (JQ (↑a.length:Int) (↑a.length:Int) 8) <|
 cond (decide (c=0)) (
 some ((List.replicate ((↑a.length:Int):Int).toNat (0:Int)),true)) (
 chk (JQ (↑a.length:Int) (↑a.length:Int) 8) <|
 chk (JQ (↑a.length:Int) (↑a.length:Int) 8) <|
 EW N b a c (EY N) N b 0 (List.replicate ((↑a.length:Int):Int).toNat (0:Int)) (List.replicate ((↑a.length:Int):Int).toNat (0:Int)) (List.replicate ((↑a.length:Int):Int).toNat (0:Int))))
def EX (N:Nat) (a:(List Int)) (g:Int→Option ((List Int)×Bool)):Nat→Int→Int→Option ((List Int)×Bool)
 |0,_,_=>none
 |i+1,b,c=>
 cond (decide (c<(↑a.length:Int))) (
 Option.bind (ix a c) λd=>
 cond ((decide (d<0))||(decide ((BD (1125899906842624-b))<d))) (
 some (([]:List Int),false)) (
 EX N a g i (BD (b+d)) (BD (c+1)))) (
 g b)
def I9 (N:Nat) (b:Int) (a:(List Int)):Option ((List Int)×Bool):=
 cond (decide (64<(↑a.length:Int))) (
 some (([]:List Int),false)) (
 EX N a (EZ N b a) N 0 0)
def GF (N:Nat) (a:(List Int)) (b:List Int):Option ((List Int)×(List Int)):=
 Option.bind (Gx N a b) λc=>
 some (b,c)
def If (N:Nat) (a:(List Int)→Option ((List Int)×(List Int))) (b:List Int):Option ((List Int)×(List Int)):=
 a b
def J8 (N:Nat) (a:(List Int)) (b:Int):Option ((List Int)×(List Int)):=
 chk (JQ (↑a.length:Int) (↑a.length:Int) 8) <|
 Option.bind (cond ((decide (0<b))&&(decide ((↑a.length:Int)≤64))) (Option.bind (HT N a) λd=>
 some d) (some false)) λg=>
 cond g (
 Option.bind (Dn N a) λi=>
 Option.bind (I9 N (min b i) a) λc=>
 cond c.2 (
 If N (GF N a) (M3 (List.replicate ((↑a.length:Int):Int).toNat (0:Int)) c.1)) (
 If N (GF N a) (List.replicate ((↑a.length:Int):Int).toNat (0:Int)))) (
 GF N a (List.replicate ((↑a.length:Int):Int).toNat (0:Int)))
def Ab (N:Nat) (c1_:Int) (a:(List Int)):Option ((List Int)×(List Int)):=
 Option.bind (J8 N a c1_) λb=>
 some (b.1,b.2)
def JP (N:Nat) (c:Int) (a:Int) (b:Int):Option Int:=
 Option.bind (Ez N c a b) λd=>
 cond (!d.2.2) (
 some 0) (
 some d.1)
def Jp (N:Nat) (a:A7) (b:Int) (c:Int):Option Int:=
 cond (decide (a.Kind≠4)) (
 some 0) (
 Option.bind (JP N b a.Num a.Den) λd=>
 Option.bind (JP N c a.BackNum a.BackDen) λg=>
 some (BD (d-g)))
def Ci (N:Nat) (a:List AL):Option (List AL):=
 some a
def GD (N:Nat) (p0_w:Aq) (c:Int) (m:List AL) (b:Int) (a:A7) (g:(List AL)→Option (List AL)) (i:Int):Option (List AL):=
 Option.bind (ix p0_w.s.Gates b) λn=>
 Option.bind (ix p0_w.s.Gates b) λj=>
 Option.bind (ix p0_w.peaks c) λo=>
 Option.bind (ix p0_w.peaks c) λk=>
 Option.bind (Ks N a j k i) λl=>
 Option.bind (Fx N l) λd=>
 chk (Jk (m.length+([(⟨a.To,a.Delay,b,(λx=>Ab N d x)⟩:AL)]:List AL).length) 32) <|
 g (m++([(⟨a.To,a.Delay,b,(λx=>Ab N d x)⟩:AL)]:List AL))
def C4 (N:Nat) (a:Int) (b:(List AL)→Int→Option (List AL)) (c:List AL):Option (List AL):=
 b c (BD (a+1))
def Be (N:Nat) (p0_w:Aq) (c:Int) (g:(List AL)→Option (List AL)):Nat→(List AL)→Int→Option (List AL)
 |0,_,_=>none
 |l+1,i,d=>
 cond (decide (d<(↑p0_w.b.Links.length:Int))) (
 Option.bind (ix p0_w.b.Links d) λa=>
 cond ((decide (a.From=c))&&(decide (a.Kind≠4))) (
 cond (decide (a.To≠(-1))) (
 Option.bind (ix p0_w.peaks a.To) λA=>
 Option.bind (ix p0_w.peaks a.To) λu=>
 GD N p0_w c i d a (C4 N d (Be N p0_w c g l)) u) (
 GD N p0_w c i d a (C4 N d (Be N p0_w c g l)) 0)) (
 cond (decide (a.From=c)) (
 Option.bind (ix p0_w.peaks c) λv=>
 Option.bind (ix p0_w.peaks c) λm=>
 Option.bind (ix p0_w.peaks a.To) λw=>
 Option.bind (ix p0_w.peaks a.To) λn=>
 Option.bind (Jp N a m n) λo=>
 Option.bind (Fx N o) λj=>
 chk (Jk (i.length+([(⟨a.To,a.Delay,d,(λx=>Ab N j x)⟩:AL)]:List AL).length) 32) <|
 C4 N d (Be N p0_w c g l) (i++([(⟨a.To,a.Delay,d,(λx=>Ab N j x)⟩:AL)]:List AL))) (
 cond ((decide (a.To=c))&&(decide (a.Kind=4))) (
 Option.bind (ix p0_w.peaks a.From) λy=>
 Option.bind (ix p0_w.peaks a.From) λp=>
 Option.bind (ix p0_w.peaks c) λz=>
 Option.bind (ix p0_w.peaks c) λq=>
 Option.bind (Jp N a p q) λs=>
 Option.bind (Gi N 0 s) λt=>
 Option.bind (Fx N t) λk=>
 chk (Jk (i.length+([(⟨a.From,a.Delay,d,(λx=>Ab N k x)⟩:AL)]:List AL).length) 32) <|
 C4 N d (Be N p0_w c g l) (i++([(⟨a.From,a.Delay,d,(λx=>Ab N k x)⟩:AL)]:List AL))) (
 C4 N d (Be N p0_w c g l) i)))) (
 g i)
def HR (N:Nat) (p0_w:Aq) (a:Int):Option (List AL):=
 Be N p0_w a (Ci N) N ([]:List AL) 0
def Bk (N:Nat) (a:List AL):Option (List AL):=
 some a
def Bz (N:Nat) (a:Int):Option (List AL):=
 cond (decide (a<0)) (
 none) (
 cond (decide (0<(BD (a-(BD (0-0)))))) (
 chk (decide (0<(BD (a-(BD (0-0)))))) <|
 chk (Jk ((BD (a-(BD (0-0)))):Int).toNat 32) <|
 Bk N ([]:List AL)) (
 Bk N ([]:List AL)))
def BU (N:Nat) (a:(List (List AL))) (d:(List AL)→Option (List AL)):Nat→(List AL)→Int→Option (List AL)
 |0,_,_=>none
 |i+1,b,c=>
 cond (decide (c<(↑a.length:Int))) (
 Option.bind (ix a c) λg=>
 chk (Jk (b.length+g.length) 32) <|
 BU N a d i (b++g) (BD (c+1))) (
 d b)
def CB (N:Nat) (a:List AL):Option (List AL):=
 some a
def Bg (N:Nat) (a:(List (List AL))) (c:Int):Option (List AL):=
 Option.bind (Bz N c) λb=>
 BU N a (CB N) N b 0
def BV (N:Nat) (a:(List (List AL))) (c:Int→Option (List AL)):Nat→Int→Int→Option (List AL)
 |0,_,_=>none
 |i+1,g,b=>
 cond (decide (b<(↑a.length:Int))) (
 Option.bind (ix a b) λd=>
 cond (decide ((BD (g+(↑d.length:Int)))<0)) (
 none) (
 BV N a c i (BD (g+(↑d.length:Int))) (BD (b+1)))) (
 c g)
def Bp (N:Nat) (a:(List (List AL))):Option (List AL):=
 BV N a (Bg N a) N 0 0
def De (N:Nat):Option Int:=
 some (-1)
def CU (N:Nat) (a:(List Int)) (b:(Int→Option Bool)) (c:Option Int):Nat→Int→Option Int
 |0,_=>none
 |j+1,d=>
 cond (decide (d<(↑a.length:Int))) (
 Option.bind (ix a d) λg=>
 Option.bind (b g) λi=>
 cond i (
 some d) (
 CU N a b c j (BD (d+1)))) (
 c)
def EJ (N:Nat) (a:(List Int)) (b:(Int→Option Bool)):Option Int:=
 CU N a b (De N) N 0
def Em (N:Nat) (a:(List Int)) (b:(Int→Option Bool)):Option Bool:=
 Option.bind (EJ N a b) λc=>
 some (decide (0≤c))
def Gv (N:Nat) (a:Int):Option Bool:=
 some (decide (0<a))
def JZ (N:Nat) (c:Int) (b:Int) (a:(List Int)):Option (List Al):=
 Option.bind (cond (decide (b<0)) (some true) (Option.bind (Em N a (λx=>Gv N x)) λg=>
 some (!g))) λi=>
 cond i (
 some ([]:List Al)) (
 Option.bind (CG N a) λd=>
 chk (Jk (([]:List Al).length+1) 40) <|
 some (([]:List Al)++([(⟨c,b,d⟩:Al)]:List Al)))
def Fq (N:Nat) (p0_w:Aq) (a:Int) (b:AL):Option ((List (List Int))×(List Int)×(List Ak)×(List Al)):=
 Option.bind (ix p0_w.s.Own a) λm=>
 Option.bind (ix p0_w.s.Own a) λj=>
 Option.bind (b.take j) λc=>
 Option.bind (ix p0_w.s.Own a) λk=>
 Option.bind (ix p0_w.s.Own a) λl=>
 Option.bind (Dn N c.1) λg=>
 cond (decide (g≤0)) (
 some ((upd p0_w.s.Own a c.2),p0_w.s.Out,p0_w.moves,p0_w.sent)) (
 chk (Jk (p0_w.moves.length+([(⟨p0_w.s.Hour,a,b.to_,b.way,c.1⟩:Ak)]:List Ak).length) 56) <|
 cond (decide (b.to_=(-1))) (
 Option.bind (DD N p0_w.s.Out c.1) λi=>
 some ((upd p0_w.s.Own a c.2),i,(p0_w.moves++([(⟨p0_w.s.Hour,a,b.to_,b.way,c.1⟩:Ak)]:List Ak)),p0_w.sent)) (
 Option.bind (JZ N (BD ((BD (p0_w.s.Hour+1))+b.delay)) b.to_ c.1) λd=>
 chk (Jk (p0_w.sent.length+d.length) 40) <|
 some ((upd p0_w.s.Own a c.2),p0_w.s.Out,(p0_w.moves++([(⟨p0_w.s.Hour,a,b.to_,b.way,c.1⟩:Ak)]:List Ak)),(p0_w.sent++d))))
def Hn (N:Nat) (a:Dv) (b:Int×Int×Bool) (c:Int):Option (Int×Int):=
 cond (decide ((BD (b.2.1+c))<a.Den)) (
 some (b.1,(BD (b.2.1+c)))) (
 some ((BD (b.1+1)),(BD ((BD (b.2.1+c))-a.Den))))
def I8 (N:Nat) (a:Dv) (d:Int) (b:Int):Option (Int×Int):=
 Option.bind (Ez N d a.Num a.Den) λc=>
 cond (!c.2.2) (
 some (0,0)) (
 cond ((decide (0≤b))&&(decide (b<a.Den))) (
 Hn N a c b) (
 Hn N a c 0))
def FD (N:Nat) (p0_w:Aq) (d:Int) (o:Dv) (g:List (List Int)) (i:List Int) (j:List Ak) (k:List Al) (l:Int×Int) (n:(List (List Int))→(List Int)→(List Ak)→(List Al)→(List Int)→Option ((List (List Int))×(List Int)×(List Int)×(List Ak)×(List Al))) (c:List Int):Option ((List (List Int))×(List Int)×(List Int)×(List Ak)×(List Al)):=
 Option.bind (Fx N l.1) λm=>
 Option.bind (Fq N (⟨p0_w.b,p0_w.in_,(⟨p0_w.s.Hour,g,c,p0_w.s.Queue,p0_w.s.Gates,p0_w.s.In,i⟩:Aj),j,p0_w.peaks,k⟩:Aq) d (⟨o.Down,o.Delay,(-1),(λx=>Ab N m x)⟩:AL)) λa=>
 n a.1 a.2.1 a.2.2.1 a.2.2.2 c
def C3 (N:Nat) (p0_w:Aq) (d:Int) (o:Dv) (a:List (List Int)) (i:List Int) (j:List Ak) (k:List Al) (g:List Int):Option ((List (List Int))×(List Int)×(List Int)×(List Ak)×(List Al)):=
 Option.bind (ix a d) λp=>
 Option.bind (ix a d) λm=>
 Option.bind (Dn N m) λl=>
 cond (decide (0<(BD (l-o.Cap)))) (
 Option.bind (Fx N (BD (l-o.Cap))) λn=>
 Option.bind (Fq N (⟨p0_w.b,p0_w.in_,(⟨p0_w.s.Hour,a,g,p0_w.s.Queue,p0_w.s.Gates,p0_w.s.In,i⟩:Aj),j,p0_w.peaks,k⟩:Aq) d (⟨o.Down,o.Delay,(-2),(λx=>Ab N n x)⟩:AL)) λc=>
 some (c.1,g,c.2.1,c.2.2.1,c.2.2.2)) (
 some (a,g,i,j,k))
def FE (N:Nat) (p0_w:Aq) (a:Int) (j:Dv) (b:List (List Int)) (d:List Int) (g:List Ak) (i:List Al):Option ((List (List Int))×(List Int)×(List Int)×(List Ak)×(List Al)):=
 cond (decide (j.Den≠0)) (
 Option.bind (ix p0_w.peaks a) λo=>
 Option.bind (ix p0_w.peaks a) λk=>
 Option.bind (ix p0_w.s.Rem a) λp=>
 Option.bind (ix p0_w.s.Rem a) λl=>
 Option.bind (I8 N j k l) λc=>
 Option.bind (ix p0_w.s.Rem a) λq=>
 Option.bind (ix p0_w.s.Rem a) λt=>
 Option.bind (ix b a) λu=>
 Option.bind (ix b a) λm=>
 Option.bind (Dn N m) λn=>
 cond (decide (c.1≤n)) (
 Option.bind (ix (upd p0_w.s.Rem a 0) a) λv=>
 Option.bind (ix (upd p0_w.s.Rem a 0) a) λw=>
 FD N p0_w a j b d g i c (C3 N p0_w a j) (upd (upd p0_w.s.Rem a 0) a c.2)) (
 FD N p0_w a j b d g i c (C3 N p0_w a j) (upd p0_w.s.Rem a 0))) (
 C3 N p0_w a j b d g i p0_w.s.Rem)
def C2 (N:Nat) (p0_w:Aq) (g:Int) (d:(List AL)) (m:(List (List Int))→(List Int)→(List Ak)→(List Al)→Option ((List (List Int))×(List Int)×(List Int)×(List Ak)×(List Al))):Nat→Int→(List (List Int))→(List Int)→(List Ak)→(List Al)→Option ((List (List Int))×(List Int)×(List Int)×(List Ak)×(List Al))
 |0,_,_,_,_,_=>none
 |p+1,a,i,j,k,l=>
 cond (decide (a<(↑d.length:Int))) (
 Option.bind (ix d a) λo=>
 Option.bind (ix d a) λn=>
 Option.bind (Fq N (⟨p0_w.b,p0_w.in_,(⟨p0_w.s.Hour,i,p0_w.s.Rem,p0_w.s.Queue,p0_w.s.Gates,p0_w.s.In,j⟩:Aj),k,p0_w.peaks,l⟩:Aq) g n) λc=>
 C2 N p0_w g d m p (BD (a+1)) c.1 c.2.1 c.2.2.1 c.2.2.2) (
 m i j k l)
def HQ (N:Nat) (p0_w:Aq) (a:Int):Option ((List (List Int))×(List Int)×(List Int)×(List Ak)×(List Al)):=
 Option.bind (ix p0_w.b.Places a) λi=>
 Option.bind (HL N p0_w a) λc=>
 Option.bind (HR N p0_w a) λd=>
 Option.bind (Bp N ([c,d]:List (List AL))) λg=>
 C2 N p0_w a g (FE N p0_w a i) N 0 p0_w.s.Own p0_w.s.Out p0_w.moves p0_w.sent
def FY (N:Nat) (k:Aj) (c:(List (List Int))×(List Int)×(List Ak)) (a:(List (List Int))×(List Al)×(List Ax)×(List Int)) (d:List (List Int)) (g:List Int) (i:List Int) (j:List Ak) (b:List Al):Option (Aj×(List Ak)×(List Int)):=
 chk (Jk (a.2.1.length+b.length) 40) <|
 some ((⟨(BD (k.Hour+1)),d,g,(a.2.1++b),a.2.2.1,c.2.1,i⟩:Aj),j,a.2.2.2)
def FX (N:Nat) (c:AX) (d:Ek) (o:Aj) (i:(List (List Int))×(List Int)×(List Ak)) (b:(List (List Int))×(List Al)×(List Ax)×(List Int)) (p:(List (List Int))→(List Int)→(List Int)→(List Ak)→(List Al)→Option (Aj×(List Ak)×(List Int))):Nat→Int→(List (List Int))→(List Int)→(List Int)→(List Ak)→(List Al)→Option (Aj×(List Ak)×(List Int))
 |0,_,_,_,_,_,_=>none
 |q+1,g,j,k,l,m,n=>
 cond (decide (g<(↑c.Places.length:Int))) (
 Option.bind (HQ N (⟨c,d,(⟨o.Hour,j,k,b.2.1,b.2.2.1,i.2.1,l⟩:Aj),m,b.2.2.2,n⟩:Aq) g) λa=>
 FX N c d o i b p q (BD (g+1)) a.1 a.2.1 a.2.2.1 a.2.2.2.1 a.2.2.2.2) (
 p j k l m n)
def Ic (N:Nat) (a:AX) (j:Aj) (c:Ek):Option (Aj×(List Ak)×(List Int)):=
 Option.bind (I7 N j) λb=>
 chk (JQ (↑a.Places.length:Int) (↑a.Places.length:Int) 8) <|
 Option.bind (HO N (⟨a,c,b,([]:List Ak),(List.replicate ((↑a.Places.length:Int):Int).toNat (0:Int)),([]:List Al)⟩:Aq)) λg=>
 Option.bind (HN N (⟨a,c,({ b with Gates:=g}:Aj),([]:List Ak),(List.replicate ((↑a.Places.length:Int):Int).toNat (0:Int)),([]:List Al)⟩:Aq)) λk=>
 Option.bind (Hk N (⟨a,c,(⟨b.Hour,k,b.Rem,b.Queue,g,b.In,b.Out⟩:Aj),([]:List Ak),(List.replicate ((↑a.Places.length:Int):Int).toNat (0:Int)),([]:List Al)⟩:Aq)) λd=>
 Option.bind (GE N (⟨a,c,(⟨b.Hour,d.1,b.Rem,b.Queue,g,d.2.1,b.Out⟩:Aj),d.2.2,(List.replicate ((↑a.Places.length:Int):Int).toNat (0:Int)),([]:List Al)⟩:Aq)) λi=>
 FX N a c b d i (FY N b d i) N 0 i.1 b.Rem b.Out d.2.2 ([]:List Al)
def Eq (N:Nat):Option Bool:=
 some true
def DJ (N:Nat) (a:(List Int)) (b:(List Int)) (c:Option Bool):Nat→Int→Option Bool
 |0,_=>none
 |j+1,d=>
 cond (decide (d<(↑a.length:Int))) (
 Option.bind (ix a d) λg=>
 Option.bind (ix b d) λi=>
 cond (decide (g≠i)) (
 some false) (
 DJ N a b c j (BD (d+1)))) (
 c)
def Bw (N:Nat) (a:(List Int)) (b:(List Int)):Option Bool:=
 cond (decide ((↑a.length:Int)≠(↑b.length:Int))) (
 some false) (
 DJ N a b (Eq N) N 0)
def HS (N:Nat) (a:(List Int)) (c1_:(List Int)):Nat→Int→(List Int)→Option (List Int)
 |0,_,_=>none
 |j+1,b,c=>
 cond (decide (b<(min (↑c1_.length:Int) (↑a.length:Int)))) (
 Option.bind (ix c b) λk=>
 Option.bind (ix c b) λd=>
 Option.bind (ix a b) λg=>
 Option.bind (Fl N d g) λi=>
 Option.bind (ix c b) λl=>
 Option.bind (ix c b) λm=>
 HS N a c1_ j (BD (b+1)) (upd c b i)) (
 some c)
def JY (N:Nat) (c1_:(List Int)) (a:(List Int)):Option (List Int):=
 HS N a c1_ N 0 c1_
def IB (N:Nat) (a:Aj) (c:(List Int)→Option (List Int)):Nat→Int→(List Int)→Option (List Int)
 |0,_,_=>none
 |j+1,b,d=>
 cond (decide (b<(↑a.Queue.length:Int))) (
 Option.bind (ix a.Queue b) λi=>
 Option.bind (JY N d i.Part) λg=>
 IB N a c j (BD (b+1)) g) (
 c d)
def JE (N:Nat) (a:List Int):Option (List Int):=
 some a
def JF (N:Nat) (a:Aj) (b:List Int):Option (List Int):=
 IB N a (JE N) N 0 b
def IC (N:Nat) (a:Aj) (c:(List Int)→Option (List Int)):Nat→Int→(List Int)→Option (List Int)
 |0,_,_=>none
 |j+1,b,d=>
 cond (decide (b<(↑a.Own.length:Int))) (
 Option.bind (ix a.Own b) λg=>
 Option.bind (JY N d g) λi=>
 IC N a c j (BD (b+1)) i) (
 c d)
def Lp (N:Nat) (a:Aj):Option (List Int):=
 chk (JQ (↑a.In.length:Int) (↑a.In.length:Int) 8) <|
 IC N a (JF N a) N 0 (List.replicate ((↑a.In.length:Int):Int).toNat (0:Int))
def DE (N:Nat):Option Bool:=
 some true
def CE (N:Nat) (a:(List (List Int))) (b:(List (List Int))) (c:(((List Int)×(List Int))→Option Bool)) (g:Option Bool):Nat→Int→Option Bool
 |0,_=>none
 |l+1,d=>
 cond (decide (d<(↑a.length:Int))) (
 Option.bind (ix a d) λi=>
 Option.bind (ix b d) λj=>
 Option.bind (c (i,j)) λk=>
 cond (!k) (
 some false) (
 CE N a b c g l (BD (d+1)))) (
 g)
def Cn (N:Nat) (a:(List (List Int))) (b:(List (List Int))) (c:(((List Int)×(List Int))→Option Bool)):Option Bool:=
 cond (decide ((↑a.length:Int)≠(↑b.length:Int))) (
 some false) (
 CE N a b c (DE N) N 0)
def Dl (N:Nat):Option Bool:=
 some true
def CZ (N:Nat) (a:(List Int)) (b:(List Int)) (c:Option Bool):Nat→Int→Option Bool
 |0,_=>none
 |j+1,d=>
 cond (decide (d<(↑a.length:Int))) (
 Option.bind (ix a d) λg=>
 Option.bind (ix b d) λi=>
 cond (decide (g≠i)) (
 some false) (
 CZ N a b c j (BD (d+1)))) (
 c)
def CF (N:Nat) (a:(List Int)) (b:(List Int)):Option Bool:=
 cond (decide ((↑a.length:Int)≠(↑b.length:Int))) (
 some false) (
 CZ N a b (Dl N) N 0)
def Au (N:Nat):Option Bool:=
 some true
def Ah (N:Nat) (a:(List Al)) (b:(List Al)) (c:((Al×Al)→Option Bool)) (g:Option Bool):Nat→Int→Option Bool
 |0,_=>none
 |l+1,d=>
 cond (decide (d<(↑a.length:Int))) (
 Option.bind (ix a d) λi=>
 Option.bind (ix b d) λj=>
 Option.bind (c (i,j)) λk=>
 cond (!k) (
 some false) (
 Ah N a b c g l (BD (d+1)))) (
 g)
def A4 (N:Nat) (a:(List Al)) (b:(List Al)) (c:((Al×Al)→Option Bool)):Option Bool:=
 cond (decide ((↑a.length:Int)≠(↑b.length:Int))) (
 some false) (
 Ah N a b c (Au N) N 0)
def CM (N:Nat):Option Bool:=
 some true
def Ba (N:Nat) (a:(List Ax)) (b:(List Ax)) (c:Option Bool):Nat→Int→Option Bool
 |0,_=>none
 |j+1,d=>
 cond (decide (d<(↑a.length:Int))) (
 Option.bind (ix a d) λg=>
 Option.bind (ix b d) λi=>
 cond (!(Wv g.v i.v)) (
 some false) (
 Ba N a b c j (BD (d+1)))) (
 c)
def B5 (N:Nat) (a:(List Ax)) (b:(List Ax)):Option Bool:=
 cond (decide ((↑a.length:Int)≠(↑b.length:Int))) (
 some false) (
 Ba N a b (CM N) N 0)
def Fh (N:Nat) (a:Al) (b:Al):Option Bool:=
 Option.bind (cond ((decide (a.At=b.At))&&(decide (a.To=b.To))) (Option.bind (CF N a.Part b.Part) λc=>
 some c) (some false)) λd=>
 some d
def Id (N:Nat) (a:Aj) (b:Aj):Option Bool:=
 Option.bind (cond (decide (a.Hour=b.Hour)) (Option.bind (Cn N a.Own b.Own (λx=>CF N x.1 x.2)) λc=>
 some c) (some false)) λd=>
 Option.bind (cond d (Option.bind (CF N a.Rem b.Rem) λg=>
 some g) (some false)) λi=>
 Option.bind (cond i (Option.bind (A4 N a.Queue b.Queue (λx=>Fh N x.1 x.2)) λj=>
 some j) (some false)) λk=>
 Option.bind (cond k (Option.bind (B5 N a.Gates b.Gates) λl=>
 some l) (some false)) λm=>
 Option.bind (cond m (Option.bind (CF N a.In b.In) λn=>
 some n) (some false)) λo=>
 Option.bind (cond o (Option.bind (CF N a.Out b.Out) λp=>
 some p) (some false)) λq=>
 some q
def GU (N:Nat):Option Bool:=
 Option.bind (Ih N) λo=>
 Option.bind (Lq N o 5) λc=>
 Option.bind (IL N o) λaa=>
 Option.bind (cond (!aa) (some true) (Option.bind (H2 N o c) λp=>
 some (!p))) λab=>
 cond (ab||(decide ((↑c.Own.length:Int)≠1))) (
 some false) (
 Option.bind (Ic N o c (⟨[],[],[],[],[]⟩:Ek)) λa=>
 Option.bind (Ic N o c (⟨[],[],[],([(⟨0,1,60,(-1)⟩:IT)]:List IT),[]⟩:Ek)) λb=>
 cond ((((decide ((↑a.2.1.length:Int)≠2))||(decide ((↑b.2.1.length:Int)≠2)))||(decide ((↑a.1.Own.length:Int)≠1)))||(decide ((↑b.1.Own.length:Int)≠1))) (
 some false) (
 Option.bind (ix a.2.1 0) λac=>
 Option.bind (ix a.2.1 0) λq=>
 Option.bind (cond (decide (q.Way=(-1))) (Option.bind (ix a.2.1 0) λad=>
 Option.bind (ix a.2.1 0) λs=>
 Option.bind (Bw N s.Part ([10,5]:List Int)) λt=>
 some t) (some false)) λu=>
 Option.bind (cond u (Option.bind (ix a.2.1 1) λae=>
 Option.bind (ix a.2.1 1) λv=>
 some (decide (v.Way=(-2)))) (some false)) λw=>
 Option.bind (cond w (Option.bind (ix a.2.1 1) λaf=>
 Option.bind (ix a.2.1 1) λx=>
 Option.bind (Bw N x.Part ([10,5]:List Int)) λy=>
 some y) (some false)) λz=>
 Option.bind (cond z (Option.bind (Bw N a.2.2 ([150]:List Int)) λA=>
 some A) (some false)) λB=>
 Option.bind (ix a.1.Own 0) λC=>
 Option.bind (Bw N C ([80,40]:List Int)) λD=>
 Option.bind (cond D (Option.bind (Bw N a.1.Out ([20,10]:List Int)) λF=>
 some F) (some false)) λG=>
 Option.bind (cond G (some (decide (a.1.Hour=6))) (some false)) λH=>
 Option.bind (cond H (Option.bind (Lp N a.1) λI=>
 Option.bind (Bw N I ([80,40]:List Int)) λJ=>
 some J) (some false)) λK=>
 Option.bind (ix b.2.1 0) λag=>
 Option.bind (ix b.2.1 0) λM=>
 Option.bind (cond (decide (M.Way=(-3))) (Option.bind (ix b.2.1 0) λah=>
 Option.bind (ix b.2.1 0) λQ=>
 Option.bind (Bw N Q.Part ([0,50]:List Int)) λU=>
 some U) (some false)) λV=>
 Option.bind (cond V (Option.bind (ix b.2.1 1) λai=>
 Option.bind (ix b.2.1 1) λW=>
 Option.bind (Bw N W.Part ([15,0]:List Int)) λX=>
 some X) (some false)) λY=>
 Option.bind (cond Y (Option.bind (ix b.1.Own 0) λZ=>
 Option.bind (Bw N Z ([85,0]:List Int)) λd=>
 some d) (some false)) λg=>
 Option.bind (cond ((B&&K)&&g) (Option.bind (Id N c c) λi=>
 some i) (some false)) λj=>
 Option.bind (cond j (Option.bind (Id N c a.1) λk=>
 some (!k)) (some false)) λl=>
 Option.bind (cond l (Option.bind (H2 N o a.1) λm=>
 some m) (some false)) λn=>
 some n))
def IR (N:Nat) (b:AX) (c:Aj) (a:Ek):Option Bool:=
 cond ((((decide (6<(↑b.Places.length:Int)))||(decide (6<(↑b.Links.length:Int))))||(decide (4<(↑b.Owners.length:Int))))||(decide (12<(↑c.Queue.length:Int)))) (
 some false) (
 some (((((decide ((↑a.Rain.length:Int)≤8))&&(decide ((↑a.Faults.length:Int)≤8)))&&(decide ((↑a.Cmds.length:Int)≤8)))&&(decide ((↑a.Takes.length:Int)≤8)))&&(decide ((↑a.Swaps.length:Int)≤8))))
def H4 (N:Nat) (a:AX) (b:Aj) (c:Ek):Option Bool:=
 Option.bind (IR N a b c) λd=>
 Option.bind (cond d (Option.bind (IL N a) λg=>
 some g) (some false)) λi=>
 Option.bind (cond i (Option.bind (H2 N a b) λj=>
 some j) (some false)) λk=>
 some k
def FP (N:Nat) (a:Int):Option Int:=
 some a
def Dg (N:Nat) (a:(List Int)) (b:Int→Option Int):Nat→Int→Int→Option Int
 |0,_,_=>none
 |i+1,g,c=>
 cond (decide (c<(↑a.length:Int))) (
 Option.bind (ix a c) λd=>
 Dg N a b i (BD (g+d)) (BD (c+1))) (
 b g)
def GO (N:Nat) (a:(List Int)):Option Int:=
 Dg N a (FP N) N 0 0
def Do (N:Nat) (a:List Int):Option (List Int):=
 some a
def Fb (N:Nat) (a:(List Int)) (g:List Int) (i:Int) (b:(List Int)→Int→Option (List Int)) (c:Int):Option (List Int):=
 Option.bind (ix a i) λd=>
 chk (Jk (g.length+1) 8) <|
 b (g++([(BD (d-c))]:List Int)) (BD (i+1))
def CQ (N:Nat) (a:(List Int)) (b:(List Int)) (c:(List Int)→Option (List Int)):Nat→(List Int)→Int→Option (List Int)
 |0,_,_=>none
 |j+1,g,d=>
 cond (decide (d<(↑a.length:Int))) (
 cond (decide (d<(↑b.length:Int))) (
 Option.bind (ix b d) λi=>
 Fb N a g d (CQ N a b c j) i) (
 Fb N a g d (CQ N a b c j) 0)) (
 c g)
def GV (N:Nat) (a:(List Int)) (b:(List Int)):Option (List Int):=
 CQ N a b (Do N) N ([]:List Int) 0
def GW (N:Nat) (b:AX) (a:Ak):Option Int:=
 cond ((decide (0≤a.Way))&&(decide (a.Way<(↑b.Links.length:Int)))) (
 Option.bind (ix b.Links a.Way) λc=>
 some c.Delay) (
 cond (decide (a.Way=(-3))) (
 some 0) (
 Option.bind (ix b.Places a.From) λd=>
 some d.Delay))
def EB (N:Nat) (a:Int) (b:(List Al)→Int→Option Bool) (c:List Al):Option Bool:=
 b c (BD (a+1))
def Bh (N:Nat) (a:Aj) (d:(List Al)→Option Bool):Nat→(List Al)→Int→Option Bool
 |0,_,_=>none
 |g+1,c,b=>
 cond (decide (b<(↑a.Queue.length:Int))) (
 Option.bind (ix a.Queue b) λi=>
 cond (decide (a.Hour<i.At)) (
 Option.bind (ix a.Queue b) λj=>
 chk (Jk (c.length+1) 40) <|
 EB N b (Bh N a d g) (c++([j]:List Al))) (
 EB N b (Bh N a d g) c)) (
 d c)
def DF (N:Nat) (a:Int) (b:(List Al)→(List Int)→Int→Option Bool) (c:List Al) (d:List Int):Option Bool:=
 b c d (BD (a+1))
def Bb (N:Nat) (i:AX) (c:Aj) (d:Aj×(List Ak)×(List Int)) (j:(List Al)→(List Int)→Option Bool):Nat→(List Al)→(List Int)→Int→Option Bool
 |0,_,_,_=>none
 |m+1,g,k,b=>
 cond (decide (b<(↑d.2.1.length:Int))) (
 Option.bind (ix d.2.1 b) λu=>
 Option.bind (ix d.2.1 b) λa=>
 Option.bind (cond (decide (a.Hour≠c.Hour)) (some true) (Option.bind (GO N a.Part) λn=>
 some (decide (n=0)))) λo=>
 Option.bind (cond o (some true) (Option.bind (cond (decide (0<b)) (Option.bind (ix d.2.1 (BD (b-1))) λv=>
 Option.bind (ix d.2.1 (BD (b-1))) λp=>
 some (decide (a.From<p.From))) (some false)) λq=>
 some q)) λs=>
 cond s (
 some false) (
 cond (decide (a.Way=(-4))) (
 DF N b (Bb N i c d j m) g k) (
 cond (decide (a.To<0)) (
 Option.bind (DD N k a.Part) λt=>
 DF N b (Bb N i c d j m) g t) (
 Option.bind (GW N i a) λl=>
 chk (Jk (g.length+([(⟨(BD ((BD (c.Hour+1))+l)),a.To,a.Part⟩:Al)]:List Al).length) 40) <|
 DF N b (Bb N i c d j m) (g++([(⟨(BD ((BD (c.Hour+1))+l)),a.To,a.Part⟩:Al)]:List Al)) k)))) (
 j g k)
def DG (N:Nat) (n:Bool) (a:Aj×(List Ak)×(List Int)) (b:List Int) (c:List Al) (d:List Int):Option Bool:=
 Option.bind (cond n (Option.bind (Bw N a.2.2 b) λg=>
 some g) (some false)) λi=>
 Option.bind (cond i (Option.bind (Bw N d a.1.Out) λj=>
 some j) (some false)) λk=>
 Option.bind (cond k (Option.bind (Id N (⟨0,[],[],c,[],[],[]⟩:Aj) (⟨0,[],[],a.1.Queue,[],[],[]⟩:Aj)) λl=>
 some l) (some false)) λm=>
 some m
def DH (N:Nat) (b:AX) (a:Aj) (i:Bool) (c:Aj×(List Ak)×(List Int)) (d:List Int) (g:List Al):Option Bool:=
 Bb N b a c (DG N i c d) N g a.Out 0
def A0 (N:Nat) (b:AX) (a:Aj) (d:Bool) (g:Aj×(List Ak)×(List Int)) (c:List Int):Option Bool:=
 Bh N a (DH N b a d g c) N ([]:List Al) 0
def EN (N:Nat) (a:Int) (c:(List Int)→Int→Option Bool) (b:List Int):Option Bool:=
 c b (BD (a+1))
def Bn (N:Nat) (b:Aj×(List Ak)×(List Int)) (c:Int) (g:(List Int)→Option Bool):Nat→(List Int)→Int→Option Bool
 |0,_,_=>none
 |n+1,d,a=>
 cond (decide (a<(↑b.2.1.length:Int))) (
 Option.bind (ix b.2.1 a) λo=>
 Option.bind (ix b.2.1 a) λi=>
 Option.bind (cond (decide (i.To=c)) (Option.bind (ix b.2.1 a) λp=>
 Option.bind (ix b.2.1 a) λj=>
 some (decide (j.Way=(-4)))) (some false)) λk=>
 cond k (
 Option.bind (ix b.2.1 a) λq=>
 Option.bind (ix b.2.1 a) λl=>
 Option.bind (DD N d l.Part) λm=>
 EN N a (Bn N b c g n) m) (
 EN N a (Bn N b c g n) d)) (
 g d)
def EM (N:Nat) (a:Int) (c:(List Int)→Int→Option Bool) (b:List Int):Option Bool:=
 c b (BD (a+1))
def Bm (N:Nat) (a:Aj) (c:Int) (g:(List Int)→Option Bool):Nat→(List Int)→Int→Option Bool
 |0,_,_=>none
 |n+1,d,b=>
 cond (decide (b<(↑a.Queue.length:Int))) (
 Option.bind (ix a.Queue b) λi=>
 Option.bind (cond (decide (i.To=c)) (Option.bind (ix a.Queue b) λj=>
 some (decide (j.At≤a.Hour))) (some false)) λk=>
 cond k (
 Option.bind (ix a.Queue b) λl=>
 Option.bind (DD N d l.Part) λm=>
 EM N b (Bm N a c g n) m) (
 EM N b (Bm N a c g n) d)) (
 g d)
def EC (N:Nat) (a:Int) (c:(List Int)→Int→Option Bool) (b:List Int):Option Bool:=
 c b (BD (a+1))
def Bl (N:Nat) (b:Aj×(List Ak)×(List Int)) (c:Int) (g:(List Int)→Option Bool):Nat→(List Int)→Int→Option Bool
 |0,_,_=>none
 |l+1,d,a=>
 cond (decide (a<(↑b.2.1.length:Int))) (
 Option.bind (ix b.2.1 a) λm=>
 Option.bind (ix b.2.1 a) λi=>
 cond (decide (i.From=c)) (
 Option.bind (ix b.2.1 a) λn=>
 Option.bind (ix b.2.1 a) λj=>
 Option.bind (GV N d j.Part) λk=>
 EC N a (Bl N b c g l) k) (
 EC N a (Bl N b c g l) d)) (
 g d)
def Co (N:Nat) (b:AX) (c:Aj×(List Ak)×(List Int)) (d:List Int) (a:Int) (g:Int) (m:(List Int)→Int→Option Bool) (i:List Int):Option Bool:=
 Option.bind (cond (decide ((↑c.1.Own.length:Int)≠(↑b.Places.length:Int))) (some true) (Option.bind (ix c.1.Own a) λj=>
 Option.bind (Bw N i j) λk=>
 some (!k))) λl=>
 cond l (
 some false) (
 m (d++([g]:List Int)) (BD (a+1)))
def DW (N:Nat) (d:AX) (g:Aj×(List Ak)×(List Int)) (a:List Int) (b:Int) (j:(List Int)→Int→Option Bool) (c:List Int):Option Bool:=
 Option.bind (GO N c) λi=>
 chk (Jk (a.length+1) 8) <|
 Bl N g b (Co N d g a b i j) N c 0
def DX (N:Nat) (b:AX) (c:Aj) (i:Aj×(List Ak)×(List Int)) (d:List Int) (a:Int) (j:(List Int)→Int→Option Bool) (g:List Int):Option Bool:=
 Bm N c a (DW N b i d a j) N g 0
def Az (N:Nat) (b:AX) (c:Aj) (g:Aj×(List Ak)×(List Int)) (i:(List Int)→Option Bool):Nat→(List Int)→Int→Option Bool
 |0,_,_=>none
 |k+1,d,a=>
 cond (decide (a<(↑b.Places.length:Int))) (
 Option.bind (ix c.Own a) λj=>
 Bn N g a (DX N b c g d a (Az N b c g i k)) N j 0) (
 i d)
def FQ (N:Nat) (b:AX) (c:Aj) (a:Ek):Option Bool:=
 Option.bind (GU N) λd=>
 Option.bind (H4 N b c a) λi=>
 cond ((!i)||(decide (0<(↑a.Swaps.length:Int)))) (
 some d) (
 Option.bind (Ic N b c a) λg=>
 Az N b c g (A0 N b c d g) N ([]:List Int) 0)
end Go.Proofs.YtblcgjadhemlbaaGreat
