import Derived.Test.YtblcgjadhemlbaaGreatQReps
import Derived.Test.YtblcgjadhemlbaaGreatQSortD
namespace Go.Proofs.YtblcgjadhemlbaaGreat
set_option linter.unusedSimpArgs false
open Go.RowKit
set_option linter.unusedVariables false
def H6 (N:Nat):Option AZ:=
 some (⟨(ByteArray.mk #[98]),MJ,0,MK,[],[],[],[],[],([0,0,0]:List Int),0⟩:AZ)
def B9 (N:Nat) (a:(List Int)):Option (List Int):=
 chk (J8 (([]:List Int).length+a.length) 8) <|
 some (([]:List Int)++a)
def Ii (N:Nat) (a:AZ) (b:Int) (c:List (List Int)):Option Al:=
 some (⟨b,c,(List.replicate ((↑a.Places.length:Int):Int).toNat (0:Int)),[],(List.replicate ((↑a.Links.length:Int):Int).toNat ((⟨0,0,false,false⟩:Ak):Ak)),(List.replicate ((↑a.Owners.length:Int):Int).toNat (0:Int)),(List.replicate ((↑a.Owners.length:Int):Int).toNat (0:Int))⟩:Al)
def He (N:Nat) (c:AZ) (d:(List (List Int))→Option Al):Nat→Int→(List (List Int))→Option Al
 |0,_,_=>none
 |l+1,a,b=>
 cond (decide (a<(↑c.Places.length:Int))) (
 Option.bind (ix c.Places a) λg=>
 Option.bind (B9 N g.Start) λi=>
 Option.bind (ix b a) λj=>
 Option.bind (ix b a) λk=>
 He N c d l (BD (a+1)) (upd b a i)) (
 d b)
def LB (N:Nat) (a:AZ) (b:Int):Option Al:=
 chk (Iu (↑a.Places.length:Int) (↑a.Places.length:Int) 24) <|
 chk (Iu (↑a.Places.length:Int) (↑a.Places.length:Int) 8) <|
 chk (Iu (↑a.Links.length:Int) (↑a.Links.length:Int) 24) <|
 chk (Iu (↑a.Owners.length:Int) (↑a.Owners.length:Int) 8) <|
 chk (Iu (↑a.Owners.length:Int) (↑a.Owners.length:Int) 8) <|
 He N a (Ii N a b) N 0 (List.replicate ((↑a.Places.length:Int):Int).toNat ([]:(List Int)))
def B6 (N:Nat) (c:Int) (b:Int) (a:Int):Option Bool:=
 some ((decide (b≤c))&&(decide (c≤a)))
def Bu (N:Nat) (a:Int):Option Bool:=
 Option.bind (B6 N a 0 1125899906842624) λb=>
 some b
def DY (N:Nat) (a:AZ) (c:Option Bool):Nat→Int→Option Bool
 |0,_=>none
 |i+1,b=>
 cond (decide (b<(↑a.Room.length:Int))) (
 Option.bind (ix a.Room b) λd=>
 Option.bind (Bu N d) λg=>
 cond (!g) (
 some false) (
 DY N a c i (BD (b+1)))) (
 c)
def E3 (N:Nat):Option Bool:=
 some true
def Da (N:Nat) (a:AZ):Option Bool:=
 DY N a (E3 N) N 0
def DZ (N:Nat) (a:AZ) (d:Option Bool):Nat→Int→Option Bool
 |0,_=>none
 |g+1,c=>
 cond (decide (c<(↑a.Name.size:Int))) (
 Option.bind (TQ a.Name c) λb=>
 cond ((((decide (b<32))||(decide (126<b)))||(decide (b=34)))||(decide (b=92))) (
 some false) (
 DZ N a d g (BD (c+1)))) (
 d)
def G0 (N:Nat) (a:AZ):Option Bool:=
 Option.bind (cond (decide (500<(↑a.Name.size:Int))) (some true) (Option.bind (B6 N (↑a.Owners.length:Int) 1 16) λb=>
 some (!b))) λc=>
 Option.bind (cond c (some true) (Option.bind (B6 N a.Cells 0 64) λd=>
 some (!d))) λg=>
 Option.bind (cond g (some true) (Option.bind (B6 N (↑a.Places.length:Int) 1 64) λi=>
 some (!i))) λj=>
 Option.bind (cond ((((((j||(decide (96<(↑a.Links.length:Int))))||(decide (40<(↑a.Towns.length:Int))))||(decide (128<(↑a.Gauges.length:Int))))||(decide (128<(↑a.Roads.length:Int))))||(decide (40<(↑a.Shelters.length:Int))))||(decide ((↑a.Room.length:Int)≠3))) (some true) (Option.bind (B6 N a.Err 0 1099511627776) λk=>
 some (!k))) λl=>
 cond l (
 some false) (
 DZ N a (Da N a) N 0)
def Fx (N:Nat):Option Bool:=
 some true
def EW (N:Nat) (a:ByteArray) (d:Option Bool):Nat→Int→Option Bool
 |0,_=>none
 |g+1,c=>
 cond (decide (c<(↑a.size:Int))) (
 Option.bind (TQ a c) λb=>
 cond ((((decide (b<97))||(decide (122<b)))&&((decide (b<48))||(decide (57<b))))&&(decide (b≠95))) (
 some false) (
 EW N a d g (BD (c+1)))) (
 d)
def H7 (N:Nat) (a:ByteArray):Option Bool:=
 Option.bind (cond (((decide ((↑a.size:Int)<1))||(decide (24<(↑a.size:Int))))||(a==(ByteArray.mk #[111,117,116]))) (some true) (Option.bind (TQ a 0) λb=>
 some (decide (b<97)))) λc=>
 Option.bind (cond c (some true) (Option.bind (TQ a 0) λd=>
 some (decide (122<d)))) λg=>
 cond g (
 some false) (
 EW N a (Fx N) N 1)
def GQ (N:Nat) (a:(List (AQ×Bool))) (b:ByteArray) (d:ByteArray):Option (Bool×(List (AQ×Bool))):=
 Option.bind (H7 N b) λc=>
 cond ((!c)||((OJ (λk:AQ=>Value.agg (AQ.v k).toArray) a (⟨d,b⟩:AQ)).getD false)) (
 some (false,a)) (
 some (true,(QP (λk:AQ=>Value.agg (AQ.v k).toArray) a (⟨d,b⟩:AQ) true)))
def IY (N:Nat) (a:(List (AQ×Bool))) (b:ByteArray) (c:ByteArray):Option (Bool×(List (AQ×Bool))):=
 cond (b==(ByteArray.mk #[115,104,101,108,116,101,114])) (
 GQ N a c (ByteArray.mk #[116,111,119,110])) (
 GQ N a c b)
def CQ (N:Nat) (c2_:(List (AQ×Bool))) (c3_:Bool) (a:ByteArray) (b:ByteArray):Option ((List (AQ×Bool))×Bool):=
 Option.bind (IY N c2_ a b) λc=>
 some (c.2,(c.1&&c3_))
def Co (N:Nat) (a:AZ) (d:Bool→((List (AQ×Bool)))→Option Bool):Nat→Int→Bool→((List (AQ×Bool)))→Option Bool
 |0,_,_,_=>none
 |k+1,c,g,i=>
 cond (decide (c<(↑a.Places.length:Int))) (
 Option.bind (ix a.Places c) λj=>
 Option.bind (CQ N i g (ByteArray.mk #[112,108,97,99,101]) j.Name) λb=>
 Co N a d k (BD (c+1)) b.2 b.1) (
 d g i)
def Cn (N:Nat) (a:AZ) (i:Bool→((List (AQ×Bool)))→Option Bool):Nat→Int→Bool→((List (AQ×Bool)))→Option Bool
 |0,_,_,_=>none
 |k+1,b,c,d=>
 cond (decide (b<(↑a.Links.length:Int))) (
 Option.bind (ix a.Links b) λj=>
 Option.bind (CQ N d c (ByteArray.mk #[108,105,110,107]) j.Name) λg=>
 Cn N a i k (BD (b+1)) g.2 g.1) (
 i c d)
def Cm (N:Nat) (a:AZ) (i:Bool→((List (AQ×Bool)))→Option Bool):Nat→Int→Bool→((List (AQ×Bool)))→Option Bool
 |0,_,_,_=>none
 |k+1,b,c,d=>
 cond (decide (b<(↑a.Towns.length:Int))) (
 Option.bind (ix a.Towns b) λj=>
 Option.bind (CQ N d c (ByteArray.mk #[116,111,119,110]) j.Name) λg=>
 Cm N a i k (BD (b+1)) g.2 g.1) (
 i c d)
def Ck (N:Nat) (a:AZ) (i:Bool→((List (AQ×Bool)))→Option Bool):Nat→Int→Bool→((List (AQ×Bool)))→Option Bool
 |0,_,_,_=>none
 |k+1,b,c,d=>
 cond (decide (b<(↑a.Shelters.length:Int))) (
 Option.bind (ix a.Shelters b) λj=>
 Option.bind (CQ N d c (ByteArray.mk #[115,104,101,108,116,101,114]) j.Name) λg=>
 Ck N a i k (BD (b+1)) g.2 g.1) (
 i c d)
def CZ (N:Nat) (a:AZ) (c:Bool→((List (AQ×Bool)))→Option Bool):Nat→Int→Bool→((List (AQ×Bool)))→Option Bool
 |0,_,_,_=>none
 |k+1,b,d,g=>
 cond (decide (b<(↑a.Gauges.length:Int))) (
 Option.bind (ix a.Gauges b) λj=>
 Option.bind (CQ N g d (ByteArray.mk #[103,97,117,103,101]) j.Name) λi=>
 CZ N a c k (BD (b+1)) i.2 i.1) (
 c d g)
def CY (N:Nat) (a:AZ) (c:Bool→Option Bool):Nat→Int→Bool→((List (AQ×Bool)))→Option Bool
 |0,_,_,_=>none
 |k+1,b,d,i=>
 cond (decide (b<(↑a.Roads.length:Int))) (
 Option.bind (ix a.Roads b) λj=>
 Option.bind (CQ N i d (ByteArray.mk #[114,111,97,100]) j.Name) λg=>
 CY N a c k (BD (b+1)) g.2 g.1) (
 c d)
def Dc (N:Nat) (a:Bool):Option Bool:=
 some a
def Dd (N:Nat) (a:AZ) (b:Bool) (c:(List (AQ×Bool))):Option Bool:=
 CY N a (Dc N) N 0 b c
def Dq (N:Nat) (a:AZ) (b:Bool) (c:(List (AQ×Bool))):Option Bool:=
 CZ N a (Dd N a) N 0 b c
def Dr (N:Nat) (a:AZ) (b:Bool) (c:(List (AQ×Bool))):Option Bool:=
 Ck N a (Dq N a) N 0 b c
def Dt (N:Nat) (a:AZ) (b:Bool) (c:(List (AQ×Bool))):Option Bool:=
 Cm N a (Dr N a) N 0 b c
def Du (N:Nat) (a:AZ) (b:Bool) (c:(List (AQ×Bool))):Option Bool:=
 Cn N a (Dt N a) N 0 b c
def Dv (N:Nat) (a:AZ) (b:Bool) (c:(List (AQ×Bool))):Option Bool:=
 Co N a (Du N a) N 0 b c
def Cp (N:Nat) (a:AZ) (c:Bool→((List (AQ×Bool)))→Option Bool):Nat→Int→Bool→((List (AQ×Bool)))→Option Bool
 |0,_,_,_=>none
 |k+1,b,d,g=>
 cond (decide (b<(↑a.Owners.length:Int))) (
 Option.bind (ix a.Owners b) λj=>
 Option.bind (CQ N g d (ByteArray.mk #[111,119,110,101,114]) j) λi=>
 Cp N a c k (BD (b+1)) i.2 i.1) (
 c d g)
def HV (N:Nat) (a:AZ):Option Bool:=
 Cp N a (Dv N a) N 0 true ([]:(List (AQ×Bool)))
def FZ (N:Nat):Option Bool:=
 some true
def Dl (N:Nat) (a:(List BI)) (d:Option Bool):Nat→Int→Option Bool
 |0,_=>none
 |l+1,c=>
 cond (decide (c<(↑a.length:Int))) (
 Option.bind (ix a c) λb=>
 cond ((((decide (b.X<0))||(decide (1125899906842624<b.X)))||(decide (b.Y<0)))||(decide (1125899906842624<b.Y))) (
 some false) (
 Option.bind (cond (decide (0<c)) (Option.bind (ix a (BD (c-1))) λg=>
 Option.bind (cond (decide (b.X≤g.X)) (some true) (Option.bind (ix a (BD (c-1))) λi=>
 some (decide (b.Y<i.Y)))) λj=>
 some j) (some false)) λk=>
 cond k (
 some false) (
 Dl N a d l (BD (c+1))))) (
 d)
def Dm (N:Nat) (a:(List BI)):Option Bool:=
 cond ((decide ((↑a.length:Int)<1))||(decide (32<(↑a.length:Int)))) (
 some false) (
 Dl N a (FZ N) N 0)
def Fa (N:Nat) (a:Int) (b:Int):Option Bool:=
 Option.bind (Bu N a) λc=>
 Option.bind (cond c (Option.bind (Bu N b) λd=>
 some d) (some false)) λg=>
 some (g&&((decide (b≠0))||(decide (a=0))))
def EA (N:Nat) (b:Int) (a:Int):Option Bool:=
 Option.bind (B6 N b 0 (BD (a-1))) λc=>
 some c
def HL (N:Nat) (c:AZ) (b:Int) (a:Int):Option Bool:=
 Option.bind (cond (decide (a=(-1))) (some true) (Option.bind (EA N a (↑c.Places.length:Int)) λd=>
 some (d&&(decide (a≠b))))) λg=>
 some g
def Bk (N:Nat) (a:Int):Option Bool:=
 some (decide (a≤1125899906842624))
def CX (N:Nat) (d:Dh) (g:Int→Option Bool):Nat→Int→Int→Option Bool
 |0,_,_=>none
 |j+1,b,a=>
 cond (decide (a<(↑d.Start.length:Int))) (
 Option.bind (ix d.Start a) λc=>
 Option.bind (Bu N c) λi=>
 cond (!i) (
 some false) (
 CX N d g j (BD (b+c)) (BD (a+1)))) (
 g b)
def CW (N:Nat) (c:AZ) (g:Dh) (d:Int) (i:Int→Option Bool):Nat→Int→Int→Option Bool
 |0,_,_=>none
 |m+1,j,b=>
 cond (decide (b<(↑g.Rain.length:Int))) (
 Option.bind (ix g.Rain b) λa=>
 Option.bind (cond ((decide (a.Index≤j))||(decide (c.Cells≤a.Index))) (some true) (Option.bind (Bu N a.Area) λk=>
 some (!k))) λl=>
 cond l (
 some false) (
 CW N c g d i m a.Index (BD (b+1)))) (
 i d)
def Db (N:Nat) (a:AZ) (c:Dh) (d:Int→Option Bool) (b:Int):Option Bool:=
 CW N a c b d N (-1) 0
def CB (N:Nat) (a:Int) (b:Int→Int→Option Bool) (c:Int):Option Bool:=
 b c (BD (a+1))
def BX (N:Nat) (b:AZ) (d:Int→Option Bool):Nat→Int→Int→Option Bool
 |0,_,_=>none
 |y+1,g,c=>
 cond (decide (c<(↑b.Places.length:Int))) (
 Option.bind (ix b.Places c) λa=>
 Option.bind (B6 N a.Kind 0 3) λj=>
 Option.bind (cond (!j) (some true) (Option.bind (B6 N a.Office 0 2) λk=>
 some (!k))) λl=>
 Option.bind (cond l (some true) (Option.bind (B6 N a.Delay 0 240) λm=>
 some (!m))) λn=>
 Option.bind (cond n (some true) (Option.bind (Bu N a.Cap) λo=>
 some (!o))) λp=>
 Option.bind (cond p (some true) (Option.bind (Bu N a.Floor) λq=>
 some (!q))) λs=>
 Option.bind (cond s (some true) (Option.bind (Dm N a.Level) λt=>
 some (!t))) λu=>
 Option.bind (cond (u||(decide ((↑a.Start.length:Int)≠(↑b.Owners.length:Int)))) (some true) (Option.bind (Fa N a.Num a.Den) λv=>
 some (!v))) λw=>
 Option.bind (cond w (some true) (Option.bind (HL N b c a.Down) λi=>
 some (!i))) λx=>
 cond x (
 some false) (
 CX N a (Db N b a (CB N c (BX N b d y))) N g 0)) (
 d g)
def G6 (N:Nat) (a:AZ):Option Bool:=
 BX N a (Bk N) N 0 0
def HD (N:Nat) (a:Int):Option Int:=
 some a
def Eu (N:Nat) (b:(Int→Option Bool)) (d:Int→Option Int):Nat→Int→Int→Option Int
 |0,_,_=>none
 |i+1,a,c=>
 cond (decide (a<c)) (
 Option.bind (b (BD (Do .u64 (IntKind.wrap .u64 (BD (a+c))) 1))) λg=>
 cond (!g) (
 Eu N b d i (BD ((BD (Do .u64 (IntKind.wrap .u64 (BD (a+c))) 1))+1)) c) (
 Eu N b d i a (BD (Do .u64 (IntKind.wrap .u64 (BD (a+c))) 1)))) (
 d a)
def JT (N:Nat) (a:Int) (b:(Int→Option Bool)):Option Int:=
 Eu N b (HD N) N 0 a
def Gk (N:Nat) (c1_:(List BI)) (c2_:Int) (a:Int):Option Bool:=
 Option.bind (ix c1_ a) λb=>
 some (decide (c2_<b.X))
def Fw (N:Nat) (a:Int) (b:Int):Option (Int×Int):=
 some ((IntKind.wrap .u64 ((IntKind.wrap .u64 ((IntKind.wrap .u64 ((Do .u64 a 32)*(Do .u64 b 32)))+(Do .u64 (IntKind.wrap .u64 ((IntKind.wrap .u64 ((Do .u64 a 32)*(Gd .and .u64 b 4294967295)))+(Do .u64 (IntKind.wrap .u64 ((Gd .and .u64 a 4294967295)*(Gd .and .u64 b 4294967295))) 32))) 32)))+(Do .u64 (IntKind.wrap .u64 ((Gd .and .u64 (IntKind.wrap .u64 ((IntKind.wrap .u64 ((Do .u64 a 32)*(Gd .and .u64 b 4294967295)))+(Do .u64 (IntKind.wrap .u64 ((Gd .and .u64 a 4294967295)*(Gd .and .u64 b 4294967295))) 32))) 4294967295)+(IntKind.wrap .u64 ((Gd .and .u64 a 4294967295)*(Do .u64 b 32))))) 32))),(IntKind.wrap .u64 (a*b)))
def Ev (N:Nat) (a:Int) (b:Int):Option Int:=
 Option.bind (TQ Ke (IntKind.wrap .u8 a)) λc=>
 some (BD (b+(BD c)))
def Ew (N:Nat) (a:Int) (b:Int):Option Int:=
 cond (decide (256≤a)) (
 Ev N (Do .u64 a 8) (BD (b+8))) (
 Ev N a b)
def Ex (N:Nat) (a:Int) (b:Int):Option Int:=
 cond (decide (65536≤a)) (
 Ew N (Do .u64 a 16) (BD (b+16))) (
 Ew N a b)
def Gx (N:Nat) (a:Int):Option Int:=
 cond (decide (4294967296≤a)) (
 Ex N (Do .u64 a 32) 32) (
 Ex N a 0)
def D6 (N:Nat) (a:Int):Option Int:=
 Option.bind (Gx N a) λb=>
 some (BD (64-b))
def C3 (N:Nat) (b:Int) (a:Int) (d:Nat) (j:Nat) (g:Int→Option (Int×Int)):Nat→Int→Int→Option (Int×Int)
 |0,_,_=>none
 |k+1,i,c=>
 cond ((decide (4294967296≤c))||(decide ((IntKind.wrap .u64 ((IntKind.wrap .u64 (4294967296*i))+(Gd .and .u64 (Cx .u64 b j) 4294967295)))<(IntKind.wrap .u64 (c*(Gd .and .u64 (Cx .u64 a d) 4294967295)))))) (
 cond (decide (4294967296≤(IntKind.wrap .u64 (i+(Do .u64 (Cx .u64 a d) 32))))) (
 g (IntKind.wrap .u64 (c-1))) (
 C3 N b a d j g k (IntKind.wrap .u64 (i+(Do .u64 (Cx .u64 a d) 32))) (IntKind.wrap .u64 (c-1)))) (
 g c)
def D7 (N:Nat) (c:Int) (a:Int) (b:Int) (n:Int) (d:Nat) (k:Nat) (l:Nat) (g:Nat) (i:Int) (j:Int):Option (Int×Int):=
 Option.bind (Mr (IntKind.wrap .u64 n)) λm=>
 some ((IntKind.wrap .u64 ((IntKind.wrap .u64 (i*4294967296))+j)),(Do .u64 (IntKind.wrap .u64 ((IntKind.wrap .u64 ((IntKind.wrap .u64 ((IntKind.wrap .u64 ((IntKind.wrap .u64 ((IntKind.wrap .u64 ((Gd .or .u64 (Cx .u64 c k) (Do .u64 a l))*4294967296))+(Do .u64 (Cx .u64 a g) 32)))-(IntKind.wrap .u64 (i*(Cx .u64 b d)))))*4294967296))+(Gd .and .u64 (Cx .u64 a g) 4294967295)))-(IntKind.wrap .u64 (j*(Cx .u64 b d))))) m))
def C4 (N:Nat) (c:Int) (a:Int) (b:Int) (m:Int) (d:Nat) (i:Nat) (j:Nat) (g:Nat) (k:Int):Option (Int×Int):=
 Option.bind (OI .u64 (IntKind.wrap .u64 ((IntKind.wrap .u64 ((IntKind.wrap .u64 ((Gd .or .u64 (Cx .u64 c i) (Do .u64 a j))*4294967296))+(Do .u64 (Cx .u64 a g) 32)))-(IntKind.wrap .u64 (k*(Cx .u64 b d))))) (Do .u64 (Cx .u64 b d) 32)) λl=>
 C3 N a b d g (D7 N c a b m d i j g k) N (IntKind.wrap .u64 ((IntKind.wrap .u64 ((IntKind.wrap .u64 ((IntKind.wrap .u64 ((Gd .or .u64 (Cx .u64 c i) (Do .u64 a j))*4294967296))+(Do .u64 (Cx .u64 a g) 32)))-(IntKind.wrap .u64 (k*(Cx .u64 b d)))))-(IntKind.wrap .u64 (l*(Do .u64 (Cx .u64 b d) 32))))) l
def Cf (N:Nat) (b:Int) (a:Int) (d:Nat) (j:Nat) (g:Int→Option (Int×Int)):Nat→Int→Int→Option (Int×Int)
 |0,_,_=>none
 |k+1,c,i=>
 cond ((decide (4294967296≤c))||(decide ((IntKind.wrap .u64 ((IntKind.wrap .u64 (4294967296*i))+(Do .u64 (Cx .u64 b j) 32)))<(IntKind.wrap .u64 (c*(Gd .and .u64 (Cx .u64 a d) 4294967295)))))) (
 cond (decide (4294967296≤(IntKind.wrap .u64 (i+(Do .u64 (Cx .u64 a d) 32))))) (
 g (IntKind.wrap .u64 (c-1))) (
 Cf N b a d j g k (IntKind.wrap .u64 (c-1)) (IntKind.wrap .u64 (i+(Do .u64 (Cx .u64 a d) 32))))) (
 g c)
def EV (N:Nat) (c:Int) (b:Int) (a:Int):Option (Int×Int):=
 cond (decide (a=0)) (
 none) (
 cond (decide (a≤c)) (
 none) (
 cond (decide (c=0)) (
 Option.bind (OI .u64 b a) λm=>
 Option.bind (QJ b a) λn=>
 some (m,n)) (
 Option.bind (D6 N a) λj=>
 Option.bind (Mr (IntKind.wrap .u64 j)) λd=>
 Option.bind (Mr (IntKind.wrap .u64 j)) λg=>
 Option.bind (Mr (IntKind.wrap .u64 (64-(IntKind.wrap .u64 j)))) λi=>
 Option.bind (Mr (IntKind.wrap .u64 j)) λk=>
 Option.bind (OI .u64 (Gd .or .u64 (Cx .u64 c g) (Do .u64 b i)) (Do .u64 (Cx .u64 a d) 32)) λl=>
 Cf N b a d k (C4 N c b a j d g i k) N l (IntKind.wrap .u64 ((Gd .or .u64 (Cx .u64 c g) (Do .u64 b i))-(IntKind.wrap .u64 (l*(Do .u64 (Cx .u64 a d) 32))))))))
def Ec (N:Nat) (c:Int) (b:Int) (a:Int):Option (Int×Int×Bool):=
 cond ((((((decide (c<0))||(decide (1125899906842624<c)))||(decide (b<0)))||(decide (1125899906842624<b)))||(decide (a<1)))||(decide (1125899906842624<a))) (
 some (0,0,false)) (
 Option.bind (Fw N (IntKind.wrap .u64 c) (IntKind.wrap .u64 b)) λg=>
 cond (decide ((IntKind.wrap .u64 a)≤g.1)) (
 some (0,0,false)) (
 Option.bind (EV N g.1 g.2 (IntKind.wrap .u64 a)) λd=>
 cond (decide (1125899906842624<d.1)) (
 some (0,0,false)) (
 some ((BD d.1),(BD d.2),true))))
def G2 (N:Nat) (a:(List BI)) (d:Int):Option (Int×Bool):=
 Option.bind (JT N (↑a.length:Int) (λx=>Gk N a d x)) λb=>
 cond (decide (b=0)) (
 Option.bind (ix a 0) λi=>
 some (i.Y,false)) (
 Option.bind (ix a (BD (b-1))) λc=>
 cond (decide (b=(↑a.length:Int))) (
 some (c.Y,false)) (
 Option.bind (ix a b) λj=>
 Option.bind (ix a b) λk=>
 Option.bind (Ec N (BD (d-c.X)) (BD (j.Y-c.Y)) (BD (k.X-c.X))) λg=>
 some ((BD (c.Y+g.1)),(decide (0<g.2.1)))))
def Ey (N:Nat) (b:(List BI)) (a:(List BI)) (i:Option Bool):Nat→Int→Option Bool
 |0,_=>none
 |j+1,c=>
 cond (decide (c<(↑a.length:Int))) (
 Option.bind (ix a c) λd=>
 Option.bind (G2 N b d.X) λg=>
 cond ((decide (d.Y<g.1))||((decide (g.1=d.Y))&&g.2)) (
 some false) (
 Ey N b a i j (BD (c+1)))) (
 i)
def GP (N:Nat):Option Bool:=
 some true
def E0 (N:Nat) (a:(List BI)) (b:(List BI)):Option Bool:=
 Ey N a b (GP N) N 0
def Ez (N:Nat) (a:(List BI)) (b:(List BI)) (d:Option Bool):Nat→Int→Option Bool
 |0,_=>none
 |j+1,c=>
 cond (decide (c<(↑a.length:Int))) (
 Option.bind (ix a c) λg=>
 Option.bind (G2 N b g.X) λi=>
 cond (decide (i.1<g.Y)) (
 some false) (
 Ez N a b d j (BD (c+1)))) (
 d)
def GK (N:Nat) (a:(List BI)) (b:(List BI)):Option Bool:=
 Option.bind (Dm N a) λc=>
 Option.bind (cond (!c) (some true) (Option.bind (Dm N b) λd=>
 some (!d))) λg=>
 cond g (
 some false) (
 Ez N a b (E0 N a b) N 0)
def DA (N:Nat) (a:Au) (b:Bool):Option Bool:=
 cond b (
 Option.bind (Bu N a.Crest) λc=>
 Option.bind (cond c (Option.bind (Bu N a.Num) λd=>
 some d) (some false)) λg=>
 Option.bind (cond g (Option.bind (B6 N a.Den 1 1125899906842624) λi=>
 some i) (some false)) λj=>
 some j) (
 cond (decide (a.Kind=2)) (
 Option.bind (Bu N a.Num) λk=>
 Option.bind (cond k (Option.bind (B6 N a.Positions 1 64) λl=>
 some l) (some false)) λm=>
 Option.bind (cond m (Option.bind (B6 N a.Speed 0 a.Positions) λn=>
 some n) (some false)) λo=>
 some o) (
 cond (decide (a.Kind=3)) (
 Option.bind (Bu N a.Num) λp=>
 Option.bind (cond p (Option.bind (B6 N a.Den 1 1125899906842624) λq=>
 some q) (some false)) λs=>
 Option.bind (cond s (Option.bind (Bu N a.Prime) λt=>
 some t) (some false)) λu=>
 Option.bind (cond u (Option.bind (Bu N a.Break) λv=>
 some v) (some false)) λw=>
 some (w&&(decide (a.Break<a.Prime)))) (
 Option.bind (Bu N a.Num) λx=>
 Option.bind (cond x (Option.bind (B6 N a.Den 1 1125899906842624) λy=>
 some y) (some false)) λz=>
 Option.bind (cond z (Option.bind (Fa N a.BackNum a.BackDen) λA=>
 some A) (some false)) λB=>
 some (B&&(decide (a.To≠(-1)))))))
def ES (N:Nat) (a:Au):Option Bool:=
 cond (decide (a.Kind=0)) (
 Option.bind (Dm N a.Rate) λb=>
 Option.bind (cond b (Option.bind (Dm N a.Band.Lo) λc=>
 some c) (some false)) λd=>
 Option.bind (cond d (Option.bind (Dm N a.Band.Hi) λg=>
 some g) (some false)) λi=>
 Option.bind (cond i (Option.bind (GK N a.Band.Lo a.Rate) λj=>
 some j) (some false)) λk=>
 Option.bind (cond k (Option.bind (GK N a.Rate a.Band.Hi) λl=>
 some l) (some false)) λm=>
 Option.bind (cond m (Option.bind (B6 N a.Positions 0 64) λn=>
 some n) (some false)) λo=>
 Option.bind (cond o (Option.bind (B6 N a.Speed 0 a.Positions) λp=>
 some p) (some false)) λq=>
 Option.bind (cond q (Option.bind (Bu N a.Leak) λs=>
 some s) (some false)) λt=>
 Option.bind (cond t (Option.bind (Fa N a.BackNum a.BackDen) λu=>
 some u) (some false)) λv=>
 some (v&&((decide (a.To≠(-1)))||(decide (a.BackDen=0))))) (
 cond (decide (a.Kind=1)) (
 DA N a (decide (a.Kind=1))) (
 DA N a (decide (a.Kind=5))))
def ER (N:Nat) (a:Au):Option Bool:=
 cond ((!(decide (a.Kind=0)))&&((((decide (0<(↑a.Rate.length:Int)))||(decide (0<(↑a.Band.Lo.length:Int))))||(decide (0<(↑a.Band.Hi.length:Int))))||(decide (a.Leak≠0)))) (
 some false) (
 cond (((!(decide (a.Kind=0)))&&(decide (a.Kind≠2)))&&((decide (a.Positions≠0))||(decide (a.Speed≠0)))) (
 some false) (
 cond (((decide (a.Kind≠1))&&(decide (a.Kind≠5)))&&(decide (a.Crest≠0))) (
 some false) (
 cond (((decide (a.Kind=0))&&(decide (a.Num≠0)))||(((decide (a.Kind=0))||(decide (a.Kind=2)))&&(decide (a.Den≠0)))) (
 some false) (
 cond ((decide (a.Kind≠3))&&((decide (a.Prime≠0))||(decide (a.Break≠0)))) (
 some false) (
 some (((decide (a.Kind=0))||(decide (a.Kind=4)))||((decide (a.BackNum=0))&&(decide (a.BackDen=0)))))))))
def Cq (N:Nat):Option Bool:=
 some true
def B7 (N:Nat) (a:AZ) (d:Option Bool):Nat→Int→Option Bool
 |0,_=>none
 |t+1,c=>
 cond (decide (c<(↑a.Links.length:Int))) (
 Option.bind (ix a.Links c) λb=>
 Option.bind (B6 N b.Kind 0 5) λg=>
 Option.bind (cond (!g) (some true) (Option.bind (EA N b.From (↑a.Places.length:Int)) λi=>
 some (!i))) λj=>
 Option.bind (cond j (some true) (Option.bind (HL N a b.From b.To) λk=>
 some (!k))) λl=>
 Option.bind (cond l (some true) (Option.bind (B6 N b.Delay 0 240) λm=>
 some (!m))) λn=>
 Option.bind (cond n (some true) (Option.bind (ES N b) λo=>
 some (!o))) λp=>
 Option.bind (cond p (some true) (Option.bind (ER N b) λq=>
 some (!q))) λs=>
 cond s (
 some false) (
 B7 N a d t (BD (c+1)))) (
 d)
def En (N:Nat) (a:AZ):Option Bool:=
 B7 N a (Cq N) N 0
def IH (N:Nat) (c:AZ) (a:Int) (b:Int):Option Bool:=
 cond (decide (b=(-1))) (
 some (decide (a=2))) (
 Option.bind (ix c.Places b) λd=>
 some ((decide (d.Office=a))||(decide (d.Office=(BD (a+1))))))
def Ct (N:Nat) (a:AZ) (g:Option Bool):Nat→Int→Option Bool
 |0,_=>none
 |m+1,d=>
 cond (decide (d<(↑a.Links.length:Int))) (
 Option.bind (ix a.Links d) λb=>
 Option.bind (ix a.Places b.From) λc=>
 Option.bind (IH N a c.Office b.To) λi=>
 Option.bind (cond (!i) (some true) (Option.bind (cond (decide (b.Kind=4)) (Option.bind (ix a.Places b.To) λj=>
 some (decide (j.Office≠c.Office))) (some false)) λk=>
 some k)) λl=>
 cond l (
 some false) (
 Ct N a g m (BD (d+1)))) (
 g)
def D1 (N:Nat):Option Bool:=
 some true
def Cv (N:Nat) (a:AZ):Option Bool:=
 Ct N a (D1 N) N 0
def Cu (N:Nat) (a:AZ) (c:Option Bool):Nat→Int→Option Bool
 |0,_=>none
 |i+1,b=>
 cond (decide (b<(↑a.Places.length:Int))) (
 Option.bind (ix a.Places b) λd=>
 Option.bind (IH N a d.Office d.Down) λg=>
 cond (!g) (
 some false) (
 Cu N a c i (BD (b+1)))) (
 c)
def Fm (N:Nat) (a:AZ):Option Bool:=
 Cu N a (Cv N a) N 0
def IG (N:Nat) (a:Int):Option Int:=
 some (BD a)
def Ed (N:Nat) (b:Int) (a:Int):Option Int:=
 cond (decide (a=0)) (
 some 0) (
 cond (decide (a<b)) (
 some 1099511627777) (
 Option.bind (Fw N (IntKind.wrap .u64 b) 1099511627776) λd=>
 Option.bind (EV N d.1 d.2 (IntKind.wrap .u64 a)) λc=>
 cond (decide (c.2≠0)) (
 IG N (IntKind.wrap .u64 (c.1+1))) (
 IG N c.1)))
def DQ (N:Nat) (a:Int):Option Int:=
 some a
def Dn (N:Nat) (a:(List BI)) (c:Int→Option Int):Nat→Int→Int→Option Int
 |0,_,_=>none
 |m+1,d,b=>
 cond (decide (b<(↑a.length:Int))) (
 Option.bind (ix a b) λg=>
 Option.bind (ix a (BD (b-1))) λi=>
 Option.bind (ix a b) λj=>
 Option.bind (ix a (BD (b-1))) λk=>
 Option.bind (Ed N (BD (g.Y-i.Y)) (BD (j.X-k.X))) λl=>
 Dn N a c m (max d l) (BD (b+1))) (
 c d)
def EQ (N:Nat) (a:Int) (b:Int→Int→Option Int) (c:Int):Option Int:=
 b c (BD (a+1))
def CU (N:Nat) (a:(List (List BI))) (c:Int→Option Int):Nat→Int→Int→Option Int
 |0,_,_=>none
 |i+1,g,b=>
 cond (decide (b<(↑a.length:Int))) (
 Option.bind (ix a b) λd=>
 Dn N d (EQ N b (CU N a c i)) N g 1) (
 c g)
def HM (N:Nat) (a:(List (List BI))):Option Int:=
 CU N a (DQ N) N 0 0
def Bz (N:Nat) (b:Int) (c:Int→(List Int)→Option Bool) (a:List Int):Option Bool:=
 c (BD (b+1)) a
def C7 (N:Nat) (b:List Int) (a:Au) (g:(List Int)→Option Bool) (i:Bool):Option Bool:=
 cond i (
 Option.bind (ix b a.From) λn=>
 Option.bind (ix b a.From) λj=>
 Option.bind (Ed N a.Num a.Den) λk=>
 Option.bind (ix b a.From) λo=>
 Option.bind (ix b a.From) λp=>
 g (upd b a.From (BD (j+k)))) (
 cond (decide (a.Kind=4)) (
 Option.bind (ix b a.From) λq=>
 Option.bind (ix b a.From) λc=>
 Option.bind (Ed N a.Num a.Den) λd=>
 Option.bind (ix b a.From) λs=>
 Option.bind (ix b a.From) λt=>
 Option.bind (ix (upd b a.From (BD (c+(BD (2*d))))) a.To) λu=>
 Option.bind (ix (upd b a.From (BD (c+(BD (2*d))))) a.To) λl=>
 Option.bind (Ed N a.BackNum a.BackDen) λm=>
 Option.bind (ix (upd b a.From (BD (c+(BD (2*d))))) a.To) λv=>
 Option.bind (ix (upd b a.From (BD (c+(BD (2*d))))) a.To) λw=>
 g (upd (upd b a.From (BD (c+(BD (2*d))))) a.To (BD (l+(BD (2*m)))))) (
 g b))
def GE (N:Nat) (b:Bool→Option Bool) (a:Bool):Option Bool:=
 b a
def BL (N:Nat) (c:AZ) (j:(List Int)→Option Bool):Nat→Int→(List Int)→Option Bool
 |0,_,_=>none
 |k+1,i,b=>
 cond (decide (i<(↑c.Links.length:Int))) (
 Option.bind (ix c.Links i) λa=>
 cond (decide (a.Kind=0)) (
 Option.bind (ix b a.From) λn=>
 Option.bind (ix b a.From) λd=>
 Option.bind (HM N ([a.Rate,a.Band.Lo,a.Band.Hi]:List (List BI))) λg=>
 Option.bind (ix b a.From) λo=>
 Option.bind (ix b a.From) λp=>
 cond (decide (a.To≠(-1))) (
 Option.bind (ix (upd b a.From (BD (d+g))) a.To) λq=>
 Option.bind (ix (upd b a.From (BD (d+g))) a.To) λl=>
 Option.bind (Ed N a.BackNum a.BackDen) λm=>
 Option.bind (ix (upd b a.From (BD (d+g))) a.To) λs=>
 Option.bind (ix (upd b a.From (BD (d+g))) a.To) λt=>
 Bz N i (BL N c j k) (upd (upd b a.From (BD (d+g))) a.To (BD (l+m)))) (
 Bz N i (BL N c j k) (upd b a.From (BD (d+g))))) (
 cond (decide (a.Kind=1)) (
 C7 N b a (Bz N i (BL N c j k)) (decide (a.Kind=1))) (
 cond (decide (a.Kind=5)) (
 GE N (C7 N b a (Bz N i (BL N c j k))) (decide (a.Kind=5))) (
 GE N (C7 N b a (Bz N i (BL N c j k))) (decide (a.Kind=3)))))) (
 j b)
def C5 (N:Nat) (b:List Int) (c:Option Bool):Nat→Int→Option Bool
 |0,_=>none
 |i+1,a=>
 cond (decide (a<(↑b.length:Int))) (
 Option.bind (ix b a) λg=>
 Option.bind (ix b a) λd=>
 cond (decide (1099511627776<d)) (
 some false) (
 C5 N b c i (BD (a+1)))) (
 c)
def EK (N:Nat):Option Bool:=
 some true
def CA (N:Nat) (a:List Int):Option Bool:=
 C5 N a (EK N) N 0
def C8 (N:Nat) (a:AZ) (b:List Int):Option Bool:=
 BL N a (CA N) N 0 b
def C6 (N:Nat) (b:AZ) (d:(List Int)→Option Bool):Nat→Int→(List Int)→Option Bool
 |0,_,_=>none
 |j+1,a,c=>
 cond (decide (a<(↑b.Places.length:Int))) (
 Option.bind (ix b.Places a) λg=>
 Option.bind (Ed N g.Num g.Den) λi=>
 Option.bind (ix c a) λk=>
 Option.bind (ix c a) λl=>
 C6 N b d j (BD (a+1)) (upd c a i)) (
 d c)
def GB (N:Nat) (a:AZ):Option Bool:=
 chk (Iu (↑a.Places.length:Int) (↑a.Places.length:Int) 8) <|
 C6 N a (C8 N a) N 0 (List.replicate ((↑a.Places.length:Int):Int).toNat (0:Int))
def DG (N:Nat) (a:AZ) (c:Option Bool):Nat→Int→Option Bool
 |0,_=>none
 |i+1,b=>
 cond (decide (b<(↑a.Shelters.length:Int))) (
 Option.bind (ix a.Shelters b) λd=>
 Option.bind (B6 N d.Room 0 1073741824) λg=>
 cond (!g) (
 some false) (
 DG N a c i (BD (b+1)))) (
 c)
def EX (N:Nat):Option Bool:=
 some true
def DI (N:Nat) (a:AZ):Option Bool:=
 DG N a (EX N) N 0
def DH (N:Nat) (a:AZ) (d:Option Bool):Nat→Int→Option Bool
 |0,_=>none
 |t+1,c=>
 cond (decide (c<(↑a.Towns.length:Int))) (
 Option.bind (ix a.Towns c) λb=>
 Option.bind (EA N b.Place (↑a.Places.length:Int)) λg=>
 Option.bind (cond (!g) (some true) (Option.bind (Bu N b.Flood) λi=>
 some (!i))) λj=>
 Option.bind (cond j (some true) (Option.bind (B6 N b.Lead 0 24) λk=>
 some (!k))) λl=>
 Option.bind (cond l (some true) (Option.bind (B6 N b.People 0 1073741824) λm=>
 some (!m))) λn=>
 Option.bind (cond n (some true) (Option.bind (Bu N b.Watch) λo=>
 some (!o))) λp=>
 Option.bind (cond p (some true) (Option.bind (B6 N b.Quorum 0 128) λq=>
 some (!q))) λs=>
 cond s (
 some false) (
 DH N a d t (BD (c+1)))) (
 d)
def GU (N:Nat) (a:AZ):Option Bool:=
 DH N a (DI N a) N 0
def EL (N:Nat):Option Bool:=
 some true
def C9 (N:Nat) (a:AZ) (d:Option Bool):Nat→Int→Option Bool
 |0,_=>none
 |o+1,c=>
 cond (decide (c<(↑a.Gauges.length:Int))) (
 Option.bind (ix a.Gauges c) λb=>
 Option.bind (B6 N b.Kind 0 2) λg=>
 Option.bind (cond (!g) (some true) (Option.bind (B6 N b.Err 0 1099511627776) λi=>
 some (!i))) λj=>
 Option.bind (cond j (some true) (Option.bind (B6 N b.Drift 0 1440) λk=>
 some (!k))) λl=>
 cond l (
 some false) (
 Option.bind (ix ([(↑a.Places.length:Int),a.Cells,(↑a.Links.length:Int)]:List Int) b.Kind) λm=>
 Option.bind (EA N b.Target m) λn=>
 cond (!n) (
 some false) (
 C9 N a d o (BD (c+1))))) (
 d)
def GC (N:Nat) (a:AZ):Option Bool:=
 C9 N a (EL N) N 0
def EY (N:Nat):Option Bool:=
 some true
def DJ (N:Nat) (a:AZ) (d:Option Bool):Nat→Int→Option Bool
 |0,_=>none
 |u+1,c=>
 cond (decide (c<(↑a.Roads.length:Int))) (
 Option.bind (ix a.Roads c) λb=>
 Option.bind (EA N b.From (↑a.Towns.length:Int)) λg=>
 Option.bind (cond (!g) (some true) (Option.bind (EA N b.To (BD ((↑a.Towns.length:Int)+(↑a.Shelters.length:Int)))) λi=>
 some (!i))) λj=>
 Option.bind (cond (j||(decide (b.From=b.To))) (some true) (Option.bind (B6 N b.Hours 1 24) λk=>
 some (!k))) λl=>
 Option.bind (cond l (some true) (Option.bind (B6 N b.Flow 0 1073741824) λm=>
 some (!m))) λn=>
 Option.bind (cond n (some true) (Option.bind (Bu N b.Limit) λo=>
 some (!o))) λp=>
 cond p (
 some false) (
 Option.bind (cond ((decide (b.By=(-1)))&&(decide (b.Limit≠0))) (some true) (Option.bind (cond (decide (b.By≠(-1))) (Option.bind (EA N b.By (↑a.Places.length:Int)) λq=>
 some (!q)) (some false)) λs=>
 some s)) λt=>
 cond t (
 some false) (
 DJ N a d u (BD (c+1))))) (
 d)
def GV (N:Nat) (a:AZ):Option Bool:=
 DJ N a (EY N) N 0
def GL (N:Nat) (a:AZ):Option Bool:=
 Option.bind (G0 N a) λv=>
 Option.bind (cond v (Option.bind (HV N a) λb=>
 some b) (some false)) λc=>
 Option.bind (cond c (Option.bind (G6 N a) λd=>
 some d) (some false)) λg=>
 Option.bind (cond g (Option.bind (En N a) λi=>
 some i) (some false)) λj=>
 Option.bind (cond j (Option.bind (Fm N a) λk=>
 some k) (some false)) λl=>
 Option.bind (cond l (Option.bind (GB N a) λm=>
 some m) (some false)) λn=>
 Option.bind (cond n (Option.bind (GU N a) λo=>
 some o) (some false)) λp=>
 Option.bind (cond p (Option.bind (GC N a) λq=>
 some q) (some false)) λs=>
 Option.bind (cond s (Option.bind (GV N a) λt=>
 some t) (some false)) λu=>
 some u
def Gh (N:Nat):Option Bool:=
 some true
def FM (N:Nat) (a:(List Int)) (c:Option Bool):Nat→Int→Int→Option Bool
 |0,_,_=>none
 |i+1,g,d=>
 cond (decide (d<(↑a.length:Int))) (
 Option.bind (ix a d) λb=>
 cond ((decide (b<0))||(decide ((BD (1125899906842624-g))<b))) (
 some false) (
 FM N a c i (BD (g+b)) (BD (d+1)))) (
 c)
def IE (N:Nat) (a:(List Int)):Option Bool:=
 FM N a (Gh N) N 0 0
def IF (N:Nat) (b:(List Int)) (a:Int):Option Bool:=
 Option.bind (cond (((decide (0≤a))&&(decide (a≤16)))&&(decide ((↑b.length:Int)=a))) (Option.bind (IE N b) λc=>
 some c) (some false)) λd=>
 some d
def qZ (N:Nat) (b:Int) (a:Int):Option Int:=
 cond ((decide (0<a))&&(decide ((BD (9223372036854775807-a))<b))) (
 some 9223372036854775807) (
 cond ((decide (a<0))&&(decide (b<(BD ((-9223372036854775808)-a))))) (
 some (-9223372036854775808)) (
 some (BD (b+a))))
def Gi (N:Nat) (a:Int):Option Int:=
 some a
def FO (N:Nat) (a:(List Int)) (c:Int→Option Int):Nat→Int→Int→Option Int
 |0,_,_=>none
 |j+1,i,b=>
 cond (decide (b<(↑a.length:Int))) (
 Option.bind (ix a b) λd=>
 Option.bind (qZ N i d) λg=>
 FO N a c j g (BD (b+1))) (
 c i)
def Dy (N:Nat) (a:(List Int)):Option Int:=
 FO N a (Gi N) N 0 0
def FC (N:Nat) (b:Int) (a:Int):Option Bool:=
 some ((decide (0≤b))&&(decide (b<a)))
def Ep (N:Nat) (b:AZ) (a:Al) (j:Int→Option (Int×Bool)):Nat→Int→Int→Option (Int×Bool)
 |0,_,_=>none
 |o+1,g,i=>
 cond (decide (i<(↑a.Queue.length:Int))) (
 Option.bind (ix a.Queue i) λd=>
 Option.bind (cond (decide (d.At<a.Hour)) (some true) (Option.bind (FC N d.To (↑b.Places.length:Int)) λk=>
 some (!k))) λl=>
 Option.bind (cond l (some true) (Option.bind (IF N d.Part (↑b.Owners.length:Int)) λm=>
 some (!m))) λn=>
 cond n (
 some (0,false)) (
 Option.bind (Dy N d.Part) λc=>
 cond ((decide (c≤0))||(decide (1125899906842624<(BD (g+c))))) (
 some (0,false)) (
 Ep N b a j o (BD (g+c)) (BD (i+1))))) (
 j g)
def GO (N:Nat) (a:Int):Option (Int×Bool):=
 some (a,true)
def EE (N:Nat) (a:AZ) (b:Al) (c:Int):Option (Int×Bool):=
 Ep N a b (GO N) N c 0
def ED (N:Nat) (b:AZ) (a:Al) (g:Int→Option (Int×Bool)):Nat→Int→Int→Option (Int×Bool)
 |0,_,_=>none
 |l+1,c,d=>
 cond (decide (d<(↑a.Own.length:Int))) (
 Option.bind (ix a.Own d) λi=>
 Option.bind (IF N i (↑b.Owners.length:Int)) λk=>
 cond (!k) (
 some (0,false)) (
 Option.bind (Dy N i) λj=>
 cond (decide (1125899906842624<(BD (c+j)))) (
 some (0,false)) (
 ED N b a g l (BD (c+j)) (BD (d+1))))) (
 g c)
def IT (N:Nat) (a:AZ) (b:Al):Option (Int×Bool):=
 ED N a b (EE N a b) N 0 0
def Fu (N:Nat) (a:Int):Option (Int×Bool):=
 some (a,true)
def ET (N:Nat) (b:(List Int)) (a:Int) (g:Int→Option (Int×Bool)):Nat→Int→Int→Option (Int×Bool)
 |0,_,_=>none
 |j+1,i,c=>
 cond (decide (c<(↑b.length:Int))) (
 Option.bind (ix b c) λd=>
 cond ((decide (d<0))||(decide ((BD (a-i))<d))) (
 some (0,false)) (
 ET N b a g j (BD (i+d)) (BD (c+1)))) (
 g i)
def HB (N:Nat) (b:(List Int)) (a:Int):Option (Int×Bool):=
 ET N b a (Fu N) N 0 0
def Eg (N:Nat) (d:AZ) (g:Al) (i:Option Bool):Nat→Int→Option Bool
 |0,_=>none
 |j+1,b=>
 cond (decide (b<(↑d.Links.length:Int))) (
 Option.bind (ix d.Links b) λc=>
 Option.bind (ix g.Gates b) λa=>
 cond ((((decide (a.Pos<0))||(decide (c.Positions<a.Pos)))||(decide (a.Target<0)))||(decide (c.Positions<a.Target))) (
 some false) (
 cond ((a.Open&&(decide (c.Kind≠5)))&&(decide (c.Kind≠3))) (
 some false) (
 Eg N d g i j (BD (b+1))))) (
 i)
def Ei (N:Nat) (d:AZ) (a:Al):Option Bool:=
 Option.bind (IT N d a) λb=>
 cond (!b.2) (
 some false) (
 Option.bind (HB N a.In 1152921504606846976) λc=>
 cond (!c.2) (
 some false) (
 Option.bind (HB N a.Out (BD ((BD (c.1+1125899906842624))-b.1))) λg=>
 some g.2))
def Ej (N:Nat) (a:AZ) (b:Al):Option Bool:=
 Eg N a b (Ei N a b) N 0
def Eh (N:Nat) (a:AZ) (b:Al) (d:Option Bool):Nat→Int→Option Bool
 |0,_=>none
 |l+1,c=>
 cond (decide (c<(↑a.Places.length:Int))) (
 Option.bind (ix a.Places c) λk=>
 Option.bind (ix b.Rem c) λg=>
 Option.bind (cond (decide (g<0)) (some true) (Option.bind (ix b.Rem c) λi=>
 some (decide ((max 0 (BD (k.Den-1)))<i)))) λj=>
 cond j (
 some false) (
 Eh N a b d l (BD (c+1)))) (
 d)
def HT (N:Nat) (b:AZ) (a:Al):Option Bool:=
 cond (((((((decide (a.Hour<0))||(decide (16777216<a.Hour)))||(decide ((↑a.Own.length:Int)≠(↑b.Places.length:Int))))||(decide ((↑a.Rem.length:Int)≠(↑b.Places.length:Int))))||(decide ((↑a.Gates.length:Int)≠(↑b.Links.length:Int))))||(decide ((↑a.In.length:Int)≠(↑b.Owners.length:Int))))||(decide ((↑a.Out.length:Int)≠(↑b.Owners.length:Int)))) (
 some false) (
 Eh N b a (Ej N b a) N 0)
def Bs (N:Nat) (a:(List Ak)):Option (List Ak):=
 chk (J8 (([]:List Ak).length+a.length) 24) <|
 some (([]:List Ak)++a)
def EG (N:Nat) (a:Al) (d:List (List Int)):Option Al:=
 Option.bind (B9 N a.Rem) λg=>
 Option.bind (Bs N a.Gates) λi=>
 Option.bind (B9 N a.In) λb=>
 Option.bind (B9 N a.Out) λc=>
 some (⟨a.Hour,d,g,a.Queue,i,b,c⟩:Al)
def EF (N:Nat) (b:Al) (d:(List (List Int))→Option Al):Nat→Int→(List (List Int))→Option Al
 |0,_,_=>none
 |j+1,a,c=>
 cond (decide (a<(↑b.Own.length:Int))) (
 Option.bind (ix b.Own a) λg=>
 Option.bind (B9 N g) λi=>
 Option.bind (ix c a) λk=>
 Option.bind (ix c a) λl=>
 EF N b d j (BD (a+1)) (upd c a i)) (
 d c)
def IU (N:Nat) (a:Al):Option Al:=
 chk (Iu (↑a.Own.length:Int) (↑a.Own.length:Int) 24) <|
 EF N a (EG N a) N 0 (List.replicate ((↑a.Own.length:Int):Int).toNat ([]:(List Int)))
def FP (N:Nat) (a:Ak) (b:Bool) (c:Bool):Option Ak:=
 some (⟨a.Pos,a.Target,b,c⟩:Ak)
def Gj (N:Nat) (d:Au) (a:Ak) (b:Int) (c:Bool→Bool→Option Ak) (g:Bool):Option Ak:=
 cond g (
 cond (decide (d.Kind=5)) (
 c a.Stuck (decide (b=2))) (
 c a.Stuck a.Open)) (
 c a.Stuck a.Open)
def Gz (N:Nat) (c:Au) (b:Ak) (a:Int):Option Ak:=
 cond (decide (a=0)) (
 FP N b true b.Open) (
 cond (decide (a=1)) (
 FP N b false b.Open) (
 cond (decide (a=2)) (
 Gj N c b a (FP N b) (decide (a=2))) (
 Gj N c b a (FP N b) (decide (a=3)))))
def GJ (N:Nat) (c:Int) (b:Int) (a:Int):Option Int:=
 cond (decide (c<b)) (
 some b) (
 cond (decide (a<c)) (
 some a) (
 some c))
def JU (N:Nat) (a:Ak) (b:Int):Option Ak:=
 some ({ a with Target:=b}:Ak)
def H5 (N:Nat) (c:Au) (b:Ak) (a:Int):Option Ak:=
 cond (decide (c.Positions≠0)) (
 Option.bind (GJ N a 0 c.Positions) λd=>
 JU N b d) (
 JU N b b.Target)
def FQ (N:Nat) (b:Int) (a:Int):Option Int:=
 cond ((decide (a<0))&&(decide ((BD (9223372036854775807+a))<b))) (
 some 9223372036854775807) (
 cond ((decide (0<a))&&(decide (b<(BD ((-9223372036854775808)+a))))) (
 some (-9223372036854775808)) (
 some (BD (b-a))))
def Gy (N:Nat) (b:Au) (a:Ak):Option Ak:=
 cond a.Stuck (
 some a) (
 Option.bind (FQ N a.Target a.Pos) λc=>
 Option.bind (FQ N 0 b.Speed) λd=>
 Option.bind (GJ N c d b.Speed) λg=>
 Option.bind (qZ N a.Pos g) λi=>
 some ({ a with Pos:=i}:Ak))
def Fh (N:Nat) (a:Int) (b:Int→(List Ak)→Option (List Ak)) (c:List Ak):Option (List Ak):=
 b (BD (a+1)) c
def CN (N:Nat) (p0_w:Ai) (g:(List Ak)→Option (List Ak)):Nat→Int→(List Ak)→Option (List Ak)
 |0,_,_=>none
 |m+1,d,c=>
 cond (decide (d<(↑p0_w.in_.Cmds.length:Int))) (
 Option.bind (ix p0_w.in_.Cmds d) λa=>
 Option.bind (FC N a.Link (↑p0_w.b.Links.length:Int)) λi=>
 cond i (
 Option.bind (ix p0_w.b.Links a.Link) λj=>
 Option.bind (ix c a.Link) λn=>
 Option.bind (ix c a.Link) λk=>
 Option.bind (H5 N j k a.Target) λl=>
 Option.bind (ix c a.Link) λo=>
 Option.bind (ix c a.Link) λp=>
 Fh N d (CN N p0_w g m) (upd c a.Link l)) (
 Fh N d (CN N p0_w g m) c)) (
 g c)
def DW (N:Nat) (p0_w:Ai):Nat→Int→(List Ak)→Option (List Ak)
 |0,_,_=>none
 |m+1,a,c=>
 cond (decide (a<(↑p0_w.b.Links.length:Int))) (
 Option.bind (ix p0_w.b.Links a) λd=>
 Option.bind (ix c a) λj=>
 Option.bind (ix c a) λg=>
 Option.bind (Gy N d g) λi=>
 Option.bind (ix c a) λk=>
 Option.bind (ix c a) λl=>
 DW N p0_w m (BD (a+1)) (upd c a i)) (
 some c)
def Cc (N:Nat) (p0_w:Ai) (a:List Ak):Option (List Ak):=
 DW N p0_w N 0 a
def Cd (N:Nat) (p0_w:Ai) (a:List Ak):Option (List Ak):=
 CN N p0_w (Cc N p0_w) N 0 a
def Fi (N:Nat) (c:Int) (a:Int→(List Ak)→Option (List Ak)) (b:List Ak):Option (List Ak):=
 a (BD (c+1)) b
def CO (N:Nat) (p0_w:Ai) (c:(List Ak)→Option (List Ak)):Nat→Int→(List Ak)→Option (List Ak)
 |0,_,_=>none
 |m+1,g,d=>
 cond (decide (g<(↑p0_w.in_.Faults.length:Int))) (
 Option.bind (ix p0_w.in_.Faults g) λa=>
 Option.bind (FC N a.Link (↑p0_w.b.Links.length:Int)) λi=>
 cond i (
 Option.bind (ix p0_w.b.Links a.Link) λj=>
 Option.bind (ix d a.Link) λn=>
 Option.bind (ix d a.Link) λk=>
 Option.bind (Gz N j k a.Kind) λl=>
 Option.bind (ix d a.Link) λo=>
 Option.bind (ix d a.Link) λp=>
 Fi N g (CO N p0_w c m) (upd d a.Link l)) (
 Fi N g (CO N p0_w c m) d)) (
 c d)
def Gt (N:Nat) (p0_w:Ai):Option (List Ak):=
 CO N p0_w (Cd N p0_w) N 0 p0_w.s.Gates
def JL (N:Nat) (b:(List Int)) (a:Int):Option Int:=
 Option.bind (cond ((decide (a<0))||(decide ((↑b.length:Int)≤a))) (some true) (Option.bind (ix b a) λd=>
 some (decide (d<0)))) λg=>
 cond g (
 some 0) (
 Option.bind (ix b a) λc=>
 some c)
def I3 (N:Nat) (a:List Int):Option (List Int):=
 some a
def Je (N:Nat) (a:(List Int)) (b:Int) (c:Int) (d:Int):Option (List Int):=
 chk (Iu (↑a.length:Int) (↑a.length:Int) 8) <|
 Option.bind (JL N a b) λg=>
 cond ((((decide (0<(min d g)))&&(decide (0≤c)))&&(decide (c<(↑a.length:Int))))&&(decide (b≠c))) (
 Option.bind (ix (Lw (List.replicate ((↑a.length:Int):Int).toNat (0:Int)) a) b) λl=>
 Option.bind (ix (Lw (List.replicate ((↑a.length:Int):Int).toNat (0:Int)) a) b) λi=>
 Option.bind (ix (Lw (List.replicate ((↑a.length:Int):Int).toNat (0:Int)) a) b) λm=>
 Option.bind (ix (Lw (List.replicate ((↑a.length:Int):Int).toNat (0:Int)) a) b) λn=>
 Option.bind (ix (upd (Lw (List.replicate ((↑a.length:Int):Int).toNat (0:Int)) a) b (BD (i-(min d g)))) c) λo=>
 Option.bind (ix (upd (Lw (List.replicate ((↑a.length:Int):Int).toNat (0:Int)) a) b (BD (i-(min d g)))) c) λj=>
 Option.bind (qZ N j (min d g)) λk=>
 Option.bind (ix (upd (Lw (List.replicate ((↑a.length:Int):Int).toNat (0:Int)) a) b (BD (i-(min d g)))) c) λp=>
 Option.bind (ix (upd (Lw (List.replicate ((↑a.length:Int):Int).toNat (0:Int)) a) b (BD (i-(min d g)))) c) λq=>
 I3 N (upd (upd (Lw (List.replicate ((↑a.length:Int):Int).toNat (0:Int)) a) b (BD (i-(min d g)))) c k)) (
 I3 N (Lw (List.replicate ((↑a.length:Int):Int).toNat (0:Int)) a))
def Fg (N:Nat) (c:Int) (a:Int→(List (List Int))→Option (List (List Int))) (b:List (List Int)):Option (List (List Int)):=
 a (BD (c+1)) b
def Cb (N:Nat) (p0_w:Ai):Nat→Int→(List (List Int))→Option (List (List Int))
 |0,_,_=>none
 |o+1,d,c=>
 cond (decide (d<(↑p0_w.in_.Swaps.length:Int))) (
 Option.bind (ix p0_w.in_.Swaps d) λa=>
 Option.bind (FC N a.Place (↑p0_w.b.Places.length:Int)) λg=>
 Option.bind (cond g (Option.bind (FC N a.From (↑p0_w.b.Owners.length:Int)) λi=>
 some i) (some false)) λj=>
 Option.bind (cond j (Option.bind (FC N a.To (↑p0_w.b.Owners.length:Int)) λk=>
 some k) (some false)) λl=>
 cond l (
 Option.bind (ix c a.Place) λq=>
 Option.bind (ix c a.Place) λm=>
 Option.bind (Je N m a.From a.To a.Litres) λn=>
 Option.bind (ix c a.Place) λs=>
 Option.bind (ix c a.Place) λp=>
 Fg N d (Cb N p0_w o) (upd c a.Place n)) (
 Fg N d (Cb N p0_w o) c)) (
 some c)
def Gs (N:Nat) (p0_w:Ai):Option (List (List Int)):=
 Cb N p0_w N 0 p0_w.s.Own
def DM (N:Nat) (p0_w:Ai) (b:Int→Option ((List (List Int))×(List Int)×(List Av))):Nat→Int→Int→Option ((List (List Int))×(List Int)×(List Av))
 |0,_,_=>none
 |i+1,c,a=>
 cond (decide (a<(↑p0_w.s.Queue.length:Int))) (
 Option.bind (ix p0_w.s.Queue a) λd=>
 Option.bind (Dy N d.Part) λg=>
 DM N p0_w b i (BD (c+g)) (BD (a+1))) (
 b c)
def FK (N:Nat) (p0_w:Ai) (k:Int) (l:Int) (d:Int) (i:List Av) (g:List (List Int)) (c:List Int) (m:Int→Int→(List Av)→(List (List Int))→(List Int)→Option ((List (List Int))×(List Int)×(List Av))) (a:Int):Option ((List (List Int))×(List Int)×(List Av)):=
 cond (decide (a≤0)) (
 m k l i g c) (
 Option.bind (ix g d) λp=>
 Option.bind (ix g d) λj=>
 Option.bind (ix j 0) λn=>
 Option.bind (ix j 0) λq=>
 Option.bind (ix c 0) λt=>
 Option.bind (ix c 0) λo=>
 Option.bind (ix c 0) λu=>
 Option.bind (ix c 0) λv=>
 chk (Iu (↑p0_w.b.Owners.length:Int) (↑p0_w.b.Owners.length:Int) 8) <|
 Option.bind (ix (List.replicate ((↑p0_w.b.Owners.length:Int):Int).toNat (0:Int)) 0) λw=>
 Option.bind (ix (List.replicate ((↑p0_w.b.Owners.length:Int):Int).toNat (0:Int)) 0) λx=>
 chk (J8 (i.length+([(⟨p0_w.s.Hour,(-1),d,(-4),(upd (List.replicate ((↑p0_w.b.Owners.length:Int):Int).toNat (0:Int)) 0 a)⟩:Av)]:List Av).length) 56) <|
 m (BD (k+a)) (BD (l+a)) (i++([(⟨p0_w.s.Hour,(-1),d,(-4),(upd (List.replicate ((↑p0_w.b.Owners.length:Int):Int).toNat (0:Int)) 0 a)⟩:Av)]:List Av)) (upd g d (upd j 0 (BD (n+a)))) (upd c 0 (BD (o+a))))
def EO (N:Nat) (a:Int) (j:Int→Int→Int→(List Av)→(List (List Int))→(List Int)→Option ((List (List Int))×(List Int)×(List Av))) (b:Int) (c:Int) (d:List Av) (g:List (List Int)) (i:List Int):Option ((List (List Int))×(List Int)×(List Av)):=
 j b c (BD (a+1)) d g i
def CC (N:Nat) (p0_w:Ai):Nat→Int→Int→Int→(List Av)→(List (List Int))→(List Int)→Option ((List (List Int))×(List Int)×(List Av))
 |0,_,_,_,_,_,_=>none
 |l+1,c,d,a,g,i,j=>
 cond (decide (a<(↑p0_w.b.Places.length:Int))) (
 cond (decide (a<(↑p0_w.in_.Rain.length:Int))) (
 Option.bind (ix p0_w.in_.Rain a) λk=>
 FK N p0_w c d a g i j (EO N a (CC N p0_w l)) (min (min k (BD (1125899906842624-c))) (BD (1152921504606846976-d)))) (
 FK N p0_w c d a g i j (EO N a (CC N p0_w l)) 0)) (
 some (i,j,g))
def DO (N:Nat) (p0_w:Ai) (a:Int):Option ((List (List Int))×(List Int)×(List Av)):=
 Option.bind (Dy N p0_w.s.In) λb=>
 CC N p0_w N a b 0 p0_w.moves p0_w.s.Own p0_w.s.In
def DP (N:Nat) (p0_w:Ai) (a:Int):Option ((List (List Int))×(List Int)×(List Av)):=
 DM N p0_w (DO N p0_w) N a 0
def DN (N:Nat) (p0_w:Ai) (b:Int→Option ((List (List Int))×(List Int)×(List Av))):Nat→Int→Int→Option ((List (List Int))×(List Int)×(List Av))
 |0,_,_=>none
 |i+1,g,a=>
 cond (decide (a<(↑p0_w.s.Own.length:Int))) (
 Option.bind (ix p0_w.s.Own a) λj=>
 Option.bind (ix p0_w.s.Own a) λc=>
 Option.bind (Dy N c) λd=>
 DN N p0_w b i (BD (g+d)) (BD (a+1))) (
 b g)
def HC (N:Nat) (p0_w:Ai):Option ((List (List Int))×(List Int)×(List Av)):=
 DN N p0_w (DP N p0_w) N 0 0
def Ho (N:Nat) (a:List Int):Option (List Int):=
 some a
def GH (N:Nat) (c:(List Int)) (d:(List Int)→Option (List Int)):Nat→Int→(List Int)→Option (List Int)
 |0,_,_=>none
 |k+1,a,b=>
 cond (decide (a<(↑c.length:Int))) (
 Option.bind (ix c a) λg=>
 Option.bind (ix b a) λl=>
 Option.bind (ix b a) λi=>
 Option.bind (qZ N i g) λj=>
 Option.bind (ix b a) λm=>
 Option.bind (ix b a) λn=>
 GH N c d k (BD (a+1)) (upd b a j)) (
 d b)
def Im (N:Nat) (a:(List Int)) (b:(List Int)):Option (List Int):=
 chk (Iu (max (↑a.length:Int) (↑b.length:Int)) (max (↑a.length:Int) (↑b.length:Int)) 8) <|
 GH N b (Ho N) N 0 (Lw (List.replicate ((max (↑a.length:Int) (↑b.length:Int)):Int).toNat (0:Int)) a)
def H4 (N:Nat) (a:Int) (b:(List Az)→Int→(List (List Int))→Option ((List (List Int))×(List Az))) (c:List Az) (d:List (List Int)):Option ((List (List Int))×(List Az)):=
 b c (BD (a+1)) d
def Eb (N:Nat) (d:(List Az)) (b:Int) (n:Int) (k:(List Az)→(List (List Int))→Option ((List (List Int))×(List Az))):Nat→(List Az)→Int→(List (List Int))→Option ((List (List Int))×(List Az))
 |0,_,_,_=>none
 |o+1,g,i,c=>
 cond (decide (i<(↑d.length:Int))) (
 Option.bind (ix d i) λa=>
 cond (((decide (a.At≤b))&&(decide (0≤a.To)))&&(decide (a.To<n))) (
 Option.bind (ix c a.To) λp=>
 Option.bind (ix c a.To) λl=>
 Option.bind (Im N l a.Part) λm=>
 Option.bind (ix c a.To) λq=>
 Option.bind (ix c a.To) λs=>
 H4 N i (Eb N d b n k o) g (upd c a.To m)) (
 Option.bind (B9 N a.Part) λj=>
 chk (J8 (g.length+([({ a with Part:=j}:Az)]:List Az).length) 40) <|
 H4 N i (Eb N d b n k o) (g++([({ a with Part:=j}:Az)]:List Az)) c)) (
 k g c)
def GS (N:Nat) (a:List Az) (b:List (List Int)):Option ((List (List Int))×(List Az)):=
 some (b,a)
def FI (N:Nat) (b:(List Az)) (a:Int) (d:Int) (c:List (List Int)):Option ((List (List Int))×(List Az)):=
 Eb N b a d (GS N) N ([]:List Az) 0 c
def FH (N:Nat) (g:Int) (d:Int) (c:(List (List Int))→Option ((List (List Int))×(List Az))):Nat→Int→(List (List Int))→Option ((List (List Int))×(List Az))
 |0,_,_=>none
 |i+1,a,b=>
 cond (decide (a<(↑(List.replicate (g:Int).toNat ([]:(List Int))).length:Int))) (
 chk (Iu d d 8) <|
 Option.bind (ix b a) λj=>
 Option.bind (ix b a) λk=>
 FH N g d c i (BD (a+1)) (upd b a (List.replicate (d:Int).toNat (0:Int)))) (
 c b)
def Jc (N:Nat) (d:(List Az)) (c:Int) (a:Int) (b:Int):Option ((List (List Int))×(List Az)):=
 Option.bind (GJ N a 0 64) λg=>
 Option.bind (GJ N b 0 16) λi=>
 chk (Iu g g 24) <|
 FH N g i (FI N d c g) N 0 (List.replicate (g:Int).toNat ([]:(List Int)))
def HE (N:Nat) (a:Ak) (b:Bool):Option Ak:=
 some ({ a with Open:=b}:Ak)
def GG (N:Nat) (b:Au) (a:Ak) (c:Int):Option Ak:=
 cond (decide (b.Kind≠3)) (
 some a) (
 cond (decide (b.Prime≤c)) (
 HE N a true) (
 cond (decide (c≤b.Break)) (
 HE N a false) (
 HE N a a.Open)))
def Et (N:Nat) (a:Int) (c:Int→(List Ak)→Option ((List (List Int))×(List Az)×(List Ak)×(List Int))) (b:List Ak):Option ((List (List Int))×(List Az)×(List Ak)×(List Int)):=
 c (BD (a+1)) b
def CF (N:Nat) (p0_w:Ai) (j:(List (List Int))×(List Az)) (i:List (List Int)) (d:List Int):Nat→Int→(List Ak)→Option ((List (List Int))×(List Az)×(List Ak)×(List Int))
 |0,_,_=>none
 |n+1,a,c=>
 cond (decide (a<(↑p0_w.b.Links.length:Int))) (
 Option.bind (ix p0_w.b.Links a) λg=>
 cond (decide (g.Kind=3)) (
 Option.bind (ix c a) λo=>
 Option.bind (ix c a) λk=>
 Option.bind (ix d g.From) λp=>
 Option.bind (ix d g.From) λl=>
 Option.bind (GG N g k l) λm=>
 Option.bind (ix c a) λq=>
 Option.bind (ix c a) λs=>
 Et N a (CF N p0_w j i d n) (upd c a m)) (
 Et N a (CF N p0_w j i d n) c)) (
 some (i,j.2,c,d))
def CS (N:Nat) (p0_w:Ai) (c:(List (List Int))×(List Az)) (a:List (List Int)) (b:List Int):Option ((List (List Int))×(List Az)×(List Ak)×(List Int)):=
 CF N p0_w c a b N 0 p0_w.s.Gates
def CR (N:Nat) (p0_w:Ai) (i:(List (List Int))×(List Az)) (j:(List (List Int))→(List Int)→Option ((List (List Int))×(List Az)×(List Ak)×(List Int))):Nat→Int→(List (List Int))→(List Int)→Option ((List (List Int))×(List Az)×(List Ak)×(List Int))
 |0,_,_,_=>none
 |w+1,a,c,d=>
 cond (decide (a<(↑p0_w.b.Places.length:Int))) (
 Option.bind (ix c a) λo=>
 Option.bind (ix c a) λk=>
 Option.bind (ix i.1 a) λp=>
 Option.bind (ix i.1 a) λl=>
 Option.bind (Im N k l) λg=>
 Option.bind (ix c a) λq=>
 Option.bind (ix c a) λs=>
 Option.bind (ix (upd c a g) a) λt=>
 Option.bind (ix (upd c a g) a) λm=>
 Option.bind (Dy N m) λn=>
 Option.bind (ix d a) λu=>
 Option.bind (ix d a) λv=>
 CR N p0_w i j w (BD (a+1)) (upd c a g) (upd d a n)) (
 j c d)
def Fk (N:Nat) (p0_w:Ai):Option ((List (List Int))×(List Az)×(List Ak)×(List Int)):=
 Option.bind (Jc N p0_w.s.Queue p0_w.s.Hour (↑p0_w.b.Places.length:Int) (↑p0_w.b.Owners.length:Int)) λa=>
 CR N p0_w a (CS N p0_w a) N 0 p0_w.s.Own p0_w.peaks
def Fv (N:Nat) (a:List Int):Option (List Int):=
 some a
def EU (N:Nat) (a:(List Int)) (d:(List Int)→Option (List Int)):Nat→Int→(List Int)→Option (List Int)
 |0,_,_=>none
 |j+1,b,c=>
 cond (decide (b<(↑a.length:Int))) (
 Option.bind (ix a b) λg=>
 Option.bind (ix c b) λk=>
 Option.bind (ix c b) λi=>
 Option.bind (ix c b) λl=>
 Option.bind (ix c b) λm=>
 EU N a d j (BD (b+1)) (upd c b (BD (i-g)))) (
 d c)
def HH (N:Nat) (a:(List Int)) (b:(List Int)):Option (List Int):=
 chk (Iu (↑a.length:Int) (↑a.length:Int) 8) <|
 EU N b (Fv N) N 0 (Lw (List.replicate ((↑a.length:Int):Int).toNat (0:Int)) a)
def HI (N:Nat) (a:(List Int)) (b:List Int):Option ((List Int)×(List Int)):=
 Option.bind (HH N a b) λc=>
 some (b,c)
def Jf (N:Nat) (b:(List Int)) (a:Int) (c:Int):Option ((List Int)×(List Int)):=
 chk (Iu (↑b.length:Int) (↑b.length:Int) 8) <|
 Option.bind (JL N b a) λd=>
 cond (decide (0<(min c d))) (
 Option.bind (ix (List.replicate ((↑b.length:Int):Int).toNat (0:Int)) a) λg=>
 Option.bind (ix (List.replicate ((↑b.length:Int):Int).toNat (0:Int)) a) λi=>
 HI N b (upd (List.replicate ((↑b.length:Int):Int).toNat (0:Int)) a (min c d))) (
 HI N b (List.replicate ((↑b.length:Int):Int).toNat (0:Int)))
def DL (N:Nat) (c1_:Hw) (a:(List Int)):Option ((List Int)×(List Int)):=
 Option.bind (Jf N a c1_.Owner c1_.Litres) λb=>
 some (b.1,b.2)
def Cy (N:Nat) (a:List AM):Option (List AM):=
 some a
def Eq (N:Nat) (a:Int) (b:(List AM)→Int→Option (List AM)) (c:List AM):Option (List AM):=
 b c (BD (a+1))
def B3 (N:Nat) (p0_w:Ai) (a:Int) (g:(List AM)→Option (List AM)):Nat→(List AM)→Int→Option (List AM)
 |0,_,_=>none
 |j+1,i,d=>
 cond (decide (d<(↑p0_w.in_.Takes.length:Int))) (
 Option.bind (ix p0_w.in_.Takes d) λc=>
 Option.bind (cond (decide (c.Place≠a)) (some true) (Option.bind (FC N c.Owner (↑p0_w.b.Owners.length:Int)) λk=>
 some (!k))) λl=>
 cond (l||(decide (c.Litres≤0))) (
 Eq N d (B3 N p0_w a g j) i) (
 Option.bind (cond (decide (c.To≠(-1))) (Option.bind (FC N c.To (↑p0_w.b.Places.length:Int)) λm=>
 Option.bind (cond (!m) (some true) (Option.bind (ix p0_w.b.Places c.To) λn=>
 Option.bind (ix p0_w.b.Places a) λo=>
 some (decide (n.Office≠o.Office)))) λp=>
 some p) (some false)) λq=>
 cond q (
 Eq N d (B3 N p0_w a g j) i) (
 chk (J8 (i.length+1) 32) <|
 Eq N d (B3 N p0_w a g j) (i++([(⟨c.To,0,(-3),(λx=>DL N c x)⟩:AM)]:List AM))))) (
 g i)
def Gr (N:Nat) (p0_w:Ai) (a:Int):Option (List AM):=
 B3 N p0_w a (Cy N) N ([]:List AM) 0
def GI (N:Nat) (c:Int) (a:Int) (b:Int):Option Int:=
 Option.bind (Ec N c a b) λd=>
 cond (!d.2.2) (
 some 0) (
 some d.1)
def Jg (N:Nat) (b:Au) (a:Int) (c:Int):Option Int:=
 cond (decide (b.To=(-1))) (
 some a) (
 Option.bind (GI N c b.BackNum b.BackDen) λd=>
 Option.bind (FQ N a d) λg=>
 some (max 0 g))
def KF (N:Nat) (a:(List BI)) (b:Int):Option Int:=
 Option.bind (Dm N a) λc=>
 cond (!c) (
 some 0) (
 Option.bind (G2 N a b) λd=>
 some d.1)
def HK (N:Nat):Option Int:=
 some 0
def HJ (N:Nat) (a:Au) (b:Int):Option Int:=
 Option.bind (FQ N b a.Crest) λd=>
 Option.bind (GI N (max 0 d) a.Num a.Den) λc=>
 some c
def I7 (N:Nat) (a:Bool) (b:Option Int):Option Int:=
 cond (!a) (
 some 0) (
 b)
def I6 (N:Nat) (c:Au) (a:Bool) (b:Int) (d:Option Int):Option Int:=
 cond a (
 Option.bind (GI N b c.Num c.Den) λg=>
 some g) (
 d)
def I5 (N:Nat) (b:Au) (a:Int):Option Int:=
 Option.bind (GI N b.Num a b.Positions) λc=>
 some c
def I4 (N:Nat) (a:Au) (c:Int) (g:(List BI)) (b:Int) (d:Int):Option Int:=
 Option.bind (Jg N a b d) λi=>
 Option.bind (KF N g i) λj=>
 Option.bind (GI N j c a.Positions) λk=>
 Option.bind (qZ N k a.Leak) λl=>
 some l
def Jh (N:Nat) (a:Au) (d:Int) (c:Bool) (i:(List BI)) (b:Int) (g:Int):Option Int:=
 cond (decide (a.Kind=0)) (
 I4 N a d i b g) (
 cond (decide (a.Kind=2)) (
 I5 N a d) (
 cond (decide (a.Kind=3)) (
 I6 N a c b (HK N)) (
 cond (decide (a.Kind=5)) (
 I7 N c (HJ N a b)) (
 cond (decide (a.Kind=1)) (
 HJ N a b) (
 HK N)))))
def KE (N:Nat) (b:Au) (c:Ak) (a:Int) (d:Int):Option Int:=
 Option.bind (Jh N b c.Pos c.Open b.Rate a d) λg=>
 some g
def Fc (N:Nat) (a:Int):Option Int:=
 some a
def Dk (N:Nat) (c:Int) (a:(List Int)) (n:Int) (k:Int→(List Int)→(List Int)→(List Int)→Option ((List Int)×Bool)):Nat→Int→Int→(List Int)→(List Int)→(List Int)→Option ((List Int)×Bool)
 |0,_,_,_,_,_=>none
 |v+1,l,b,g,i,j=>
 cond (decide (b<(↑a.length:Int))) (
 Option.bind (ix a b) λm=>
 Option.bind (Ec N c m n) λd=>
 Option.bind (ix j b) λo=>
 Option.bind (ix j b) λp=>
 Option.bind (ix i b) λq=>
 Option.bind (ix i b) λs=>
 Option.bind (ix g b) λt=>
 Option.bind (ix g b) λu=>
 Dk N c a n k v (BD (l-d.1)) (BD (b+1)) (upd g b b) (upd i b d.2.1) (upd j b d.1)) (
 k l g i j)
def EH (N:Nat) (c:List Int) (g:(List Int)→Option ((List Int)×Bool)):Nat→Int→(List Int)→Option ((List Int)×Bool)
 |0,_,_=>none
 |m+1,d,a=>
 cond (decide (d<(↑c.length:Int))) (
 Option.bind (ix c d) λb=>
 Option.bind (ix a b) λj=>
 Option.bind (ix a b) λi=>
 Option.bind (ix a b) λk=>
 Option.bind (ix a b) λl=>
 EH N c g m (BD (d+1)) (upd a b (BD (i+1)))) (
 g a)
def FY (N:Nat) (a:List Int):Option ((List Int)×Bool):=
 some (a,true)
def DR (N:Nat) (c:Int) (d:List Int) (g:List Int) (i:List Int):Option ((List Int)×Bool):=
 Option.bind (Om d g) λa=>
 Option.bind (cN a c) λb=>
 EH N b (FY N) N 0 i
def EJ (N:Nat) (b:Int) (a:(List Int)) (c:Int):Option ((List Int)×Bool):=
 cond ((decide (b<0))||(decide (c<b))) (
 some (([]:List Int),false)) (
 chk (Iu (↑a.length:Int) (↑a.length:Int) 8) <|
 cond (decide (c=0)) (
 some ((List.replicate ((↑a.length:Int):Int).toNat (0:Int)),true)) (
 chk (Iu (↑a.length:Int) (↑a.length:Int) 8) <|
 chk (Iu (↑a.length:Int) (↑a.length:Int) 8) <|
 Dk N b a c (DR N) N b 0 (List.replicate ((↑a.length:Int):Int).toNat (0:Int)) (List.replicate ((↑a.length:Int):Int).toNat (0:Int)) (List.replicate ((↑a.length:Int):Int).toNat (0:Int))))
def EI (N:Nat) (a:(List Int)) (g:Int→Option ((List Int)×Bool)):Nat→Int→Int→Option ((List Int)×Bool)
 |0,_,_=>none
 |i+1,b,c=>
 cond (decide (c<(↑a.length:Int))) (
 Option.bind (ix a c) λd=>
 cond ((decide (d<0))||(decide ((BD (1125899906842624-b))<d))) (
 some (([]:List Int),false)) (
 EI N a g i (BD (b+d)) (BD (c+1)))) (
 g b)
def IX (N:Nat) (b:Int) (a:(List Int)):Option ((List Int)×Bool):=
 cond (decide (64<(↑a.length:Int))) (
 some (([]:List Int),false)) (
 EI N a (EJ N b a) N 0 0)
def D5 (N:Nat) (a:(List Int)) (b:List Int):Option ((List Int)×(List Int)):=
 Option.bind (HH N a b) λc=>
 some (b,c)
def GT (N:Nat) (a:(List Int)→Option ((List Int)×(List Int))) (b:List Int):Option ((List Int)×(List Int)):=
 a b
def Jd (N:Nat) (a:(List Int)) (b:Int):Option ((List Int)×(List Int)):=
 chk (Iu (↑a.length:Int) (↑a.length:Int) 8) <|
 Option.bind (cond ((decide (0<b))&&(decide ((↑a.length:Int)≤64))) (Option.bind (IE N a) λd=>
 some d) (some false)) λg=>
 cond g (
 Option.bind (Dy N a) λi=>
 Option.bind (IX N (min b i) a) λc=>
 cond c.2 (
 GT N (D5 N a) (Lw (List.replicate ((↑a.length:Int):Int).toNat (0:Int)) c.1)) (
 GT N (D5 N a) (List.replicate ((↑a.length:Int):Int).toNat (0:Int)))) (
 D5 N a (List.replicate ((↑a.length:Int):Int).toNat (0:Int)))
def AY (N:Nat) (c1_:Int) (a:(List Int)):Option ((List Int)×(List Int)):=
 Option.bind (Jd N a c1_) λb=>
 some (b.1,b.2)
def It (N:Nat) (c:Int) (a:Int) (b:Int):Option Int:=
 Option.bind (Ec N c a b) λd=>
 cond (!d.2.2) (
 some 0) (
 some d.1)
def JK (N:Nat) (a:Au) (b:Int) (c:Int):Option Int:=
 cond (decide (a.Kind≠4)) (
 some 0) (
 Option.bind (It N b a.Num a.Den) λd=>
 Option.bind (It N c a.BackNum a.BackDen) λg=>
 some (BD (d-g)))
def Ce (N:Nat) (a:List AM):Option (List AM):=
 some a
def Fj (N:Nat) (p0_w:Ai) (c:Int) (m:List AM) (b:Int) (a:Au) (g:(List AM)→Option (List AM)) (i:Int):Option (List AM):=
 Option.bind (ix p0_w.s.Gates b) λn=>
 Option.bind (ix p0_w.s.Gates b) λj=>
 Option.bind (ix p0_w.peaks c) λo=>
 Option.bind (ix p0_w.peaks c) λk=>
 Option.bind (KE N a j k i) λl=>
 Option.bind (Fc N l) λd=>
 chk (J8 (m.length+([(⟨a.To,a.Delay,b,(λx=>AY N d x)⟩:AM)]:List AM).length) 32) <|
 g (m++([(⟨a.To,a.Delay,b,(λx=>AY N d x)⟩:AM)]:List AM))
def C1 (N:Nat) (a:Int) (b:(List AM)→Int→Option (List AM)) (c:List AM):Option (List AM):=
 b c (BD (a+1))
def Ba (N:Nat) (p0_w:Ai) (c:Int) (g:(List AM)→Option (List AM)):Nat→(List AM)→Int→Option (List AM)
 |0,_,_=>none
 |l+1,i,d=>
 cond (decide (d<(↑p0_w.b.Links.length:Int))) (
 Option.bind (ix p0_w.b.Links d) λa=>
 cond ((decide (a.From=c))&&(decide (a.Kind≠4))) (
 cond (decide (a.To≠(-1))) (
 Option.bind (ix p0_w.peaks a.To) λA=>
 Option.bind (ix p0_w.peaks a.To) λu=>
 Fj N p0_w c i d a (C1 N d (Ba N p0_w c g l)) u) (
 Fj N p0_w c i d a (C1 N d (Ba N p0_w c g l)) 0)) (
 cond (decide (a.From=c)) (
 Option.bind (ix p0_w.peaks c) λv=>
 Option.bind (ix p0_w.peaks c) λm=>
 Option.bind (ix p0_w.peaks a.To) λw=>
 Option.bind (ix p0_w.peaks a.To) λn=>
 Option.bind (JK N a m n) λo=>
 Option.bind (Fc N o) λj=>
 chk (J8 (i.length+([(⟨a.To,a.Delay,d,(λx=>AY N j x)⟩:AM)]:List AM).length) 32) <|
 C1 N d (Ba N p0_w c g l) (i++([(⟨a.To,a.Delay,d,(λx=>AY N j x)⟩:AM)]:List AM))) (
 cond ((decide (a.To=c))&&(decide (a.Kind=4))) (
 Option.bind (ix p0_w.peaks a.From) λy=>
 Option.bind (ix p0_w.peaks a.From) λp=>
 Option.bind (ix p0_w.peaks c) λz=>
 Option.bind (ix p0_w.peaks c) λq=>
 Option.bind (JK N a p q) λs=>
 Option.bind (FQ N 0 s) λt=>
 Option.bind (Fc N t) λk=>
 chk (J8 (i.length+([(⟨a.From,a.Delay,d,(λx=>AY N k x)⟩:AM)]:List AM).length) 32) <|
 C1 N d (Ba N p0_w c g l) (i++([(⟨a.From,a.Delay,d,(λx=>AY N k x)⟩:AM)]:List AM))) (
 C1 N d (Ba N p0_w c g l) i)))) (
 g i)
def Gv (N:Nat) (p0_w:Ai) (a:Int):Option (List AM):=
 Ba N p0_w a (Ce N) N ([]:List AM) 0
def Be (N:Nat) (a:List AM):Option (List AM):=
 some a
def Bo (N:Nat) (a:Int):Option (List AM):=
 cond (decide (a<0)) (
 none) (
 cond (decide (0<(BD (a-(BD (0-0)))))) (
 chk (decide (0<(BD (a-(BD (0-0)))))) <|
 chk (J8 ((BD (a-(BD (0-0)))):Int).toNat 32) <|
 Be N ([]:List AM)) (
 Be N ([]:List AM)))
def BM (N:Nat) (a:(List (List AM))) (d:(List AM)→Option (List AM)):Nat→(List AM)→Int→Option (List AM)
 |0,_,_=>none
 |i+1,b,c=>
 cond (decide (c<(↑a.length:Int))) (
 Option.bind (ix a c) λg=>
 chk (J8 (b.length+g.length) 32) <|
 BM N a d i (b++g) (BD (c+1))) (
 d b)
def B4 (N:Nat) (a:List AM):Option (List AM):=
 some a
def Bc (N:Nat) (a:(List (List AM))) (c:Int):Option (List AM):=
 Option.bind (Bo N c) λb=>
 BM N a (B4 N) N b 0
def BO (N:Nat) (a:(List (List AM))) (c:Int→Option (List AM)):Nat→Int→Int→Option (List AM)
 |0,_,_=>none
 |i+1,g,b=>
 cond (decide (b<(↑a.length:Int))) (
 Option.bind (ix a b) λd=>
 cond (decide ((BD (g+(↑d.length:Int)))<0)) (
 none) (
 BO N a c i (BD (g+(↑d.length:Int))) (BD (b+1)))) (
 c g)
def Bj (N:Nat) (a:(List (List AM))):Option (List AM):=
 BO N a (Bc N a) N 0 0
def DX (N:Nat):Option Int:=
 some (-1)
def CP (N:Nat) (a:(List Int)) (b:(Int→Option Bool)) (c:Option Int):Nat→Int→Option Int
 |0,_=>none
 |j+1,d=>
 cond (decide (d<(↑a.length:Int))) (
 Option.bind (ix a d) λg=>
 Option.bind (b g) λi=>
 cond i (
 some d) (
 CP N a b c j (BD (d+1)))) (
 c)
def FG (N:Nat) (a:(List Int)) (b:(Int→Option Bool)):Option Int:=
 CP N a b (DX N) N 0
def Cs (N:Nat) (a:(List Int)) (b:(Int→Option Bool)):Option Bool:=
 Option.bind (FG N a b) λc=>
 some (decide (0≤c))
def Fl (N:Nat) (a:Int):Option Bool:=
 some (decide (0<a))
def I2 (N:Nat) (c:Int) (b:Int) (a:(List Int)):Option (List Az):=
 Option.bind (cond (decide (b<0)) (some true) (Option.bind (Cs N a (λx=>Fl N x)) λg=>
 some (!g))) λi=>
 cond i (
 some ([]:List Az)) (
 Option.bind (B9 N a) λd=>
 chk (J8 (([]:List Az).length+1) 40) <|
 some (([]:List Az)++([(⟨c,b,d⟩:Az)]:List Az)))
def FX (N:Nat) (p0_w:Ai) (a:Int) (b:AM):Option ((List (List Int))×(List Int)×(List Av)×(List Az)):=
 Option.bind (ix p0_w.s.Own a) λm=>
 Option.bind (ix p0_w.s.Own a) λj=>
 Option.bind (b.take j) λc=>
 Option.bind (ix p0_w.s.Own a) λk=>
 Option.bind (ix p0_w.s.Own a) λl=>
 Option.bind (Dy N c.1) λg=>
 cond (decide (g≤0)) (
 some ((upd p0_w.s.Own a c.2),p0_w.s.Out,p0_w.moves,p0_w.sent)) (
 chk (J8 (p0_w.moves.length+([(⟨p0_w.s.Hour,a,b.to_,b.way,c.1⟩:Av)]:List Av).length) 56) <|
 cond (decide (b.to_=(-1))) (
 Option.bind (Im N p0_w.s.Out c.1) λi=>
 some ((upd p0_w.s.Own a c.2),i,(p0_w.moves++([(⟨p0_w.s.Hour,a,b.to_,b.way,c.1⟩:Av)]:List Av)),p0_w.sent)) (
 Option.bind (I2 N (BD ((BD (p0_w.s.Hour+1))+b.delay)) b.to_ c.1) λd=>
 chk (J8 (p0_w.sent.length+d.length) 40) <|
 some ((upd p0_w.s.Own a c.2),p0_w.s.Out,(p0_w.moves++([(⟨p0_w.s.Hour,a,b.to_,b.way,c.1⟩:Av)]:List Av)),(p0_w.sent++d))))
def HG (N:Nat) (a:Dh) (b:Int×Int×Bool) (c:Int):Option (Int×Int):=
 cond (decide ((BD (b.2.1+c))<a.Den)) (
 some (b.1,(BD (b.2.1+c)))) (
 some ((BD (b.1+1)),(BD ((BD (b.2.1+c))-a.Den))))
def IW (N:Nat) (a:Dh) (d:Int) (b:Int):Option (Int×Int):=
 Option.bind (Ec N d a.Num a.Den) λc=>
 cond (!c.2.2) (
 some (0,0)) (
 cond ((decide (0≤b))&&(decide (b<a.Den))) (
 HG N a c b) (
 HG N a c 0))
def Er (N:Nat) (p0_w:Ai) (d:Int) (o:Dh) (g:List (List Int)) (i:List Int) (j:List Av) (k:List Az) (l:Int×Int) (n:(List (List Int))→(List Int)→(List Av)→(List Az)→(List Int)→Option ((List (List Int))×(List Int)×(List Int)×(List Av)×(List Az))) (c:List Int):Option ((List (List Int))×(List Int)×(List Int)×(List Av)×(List Az)):=
 Option.bind (Fc N l.1) λm=>
 Option.bind (FX N (⟨p0_w.b,p0_w.in_,(⟨p0_w.s.Hour,g,c,p0_w.s.Queue,p0_w.s.Gates,p0_w.s.In,i⟩:Al),j,p0_w.peaks,k⟩:Ai) d (⟨o.Down,o.Delay,(-1),(λx=>AY N m x)⟩:AM)) λa=>
 n a.1 a.2.1 a.2.2.1 a.2.2.2 c
def C0 (N:Nat) (p0_w:Ai) (d:Int) (o:Dh) (a:List (List Int)) (i:List Int) (j:List Av) (k:List Az) (g:List Int):Option ((List (List Int))×(List Int)×(List Int)×(List Av)×(List Az)):=
 Option.bind (ix a d) λp=>
 Option.bind (ix a d) λm=>
 Option.bind (Dy N m) λl=>
 cond (decide (0<(BD (l-o.Cap)))) (
 Option.bind (Fc N (BD (l-o.Cap))) λn=>
 Option.bind (FX N (⟨p0_w.b,p0_w.in_,(⟨p0_w.s.Hour,a,g,p0_w.s.Queue,p0_w.s.Gates,p0_w.s.In,i⟩:Al),j,p0_w.peaks,k⟩:Ai) d (⟨o.Down,o.Delay,(-2),(λx=>AY N n x)⟩:AM)) λc=>
 some (c.1,g,c.2.1,c.2.2.1,c.2.2.2)) (
 some (a,g,i,j,k))
def Es (N:Nat) (p0_w:Ai) (a:Int) (j:Dh) (b:List (List Int)) (d:List Int) (g:List Av) (i:List Az):Option ((List (List Int))×(List Int)×(List Int)×(List Av)×(List Az)):=
 cond (decide (j.Den≠0)) (
 Option.bind (ix p0_w.peaks a) λo=>
 Option.bind (ix p0_w.peaks a) λk=>
 Option.bind (ix p0_w.s.Rem a) λp=>
 Option.bind (ix p0_w.s.Rem a) λl=>
 Option.bind (IW N j k l) λc=>
 Option.bind (ix p0_w.s.Rem a) λq=>
 Option.bind (ix p0_w.s.Rem a) λt=>
 Option.bind (ix b a) λu=>
 Option.bind (ix b a) λm=>
 Option.bind (Dy N m) λn=>
 cond (decide (c.1≤n)) (
 Option.bind (ix (upd p0_w.s.Rem a 0) a) λv=>
 Option.bind (ix (upd p0_w.s.Rem a 0) a) λw=>
 Er N p0_w a j b d g i c (C0 N p0_w a j) (upd (upd p0_w.s.Rem a 0) a c.2)) (
 Er N p0_w a j b d g i c (C0 N p0_w a j) (upd p0_w.s.Rem a 0))) (
 C0 N p0_w a j b d g i p0_w.s.Rem)
def Cz (N:Nat) (p0_w:Ai) (g:Int) (d:(List AM)) (m:(List (List Int))→(List Int)→(List Av)→(List Az)→Option ((List (List Int))×(List Int)×(List Int)×(List Av)×(List Az))):Nat→Int→(List (List Int))→(List Int)→(List Av)→(List Az)→Option ((List (List Int))×(List Int)×(List Int)×(List Av)×(List Az))
 |0,_,_,_,_,_=>none
 |p+1,a,i,j,k,l=>
 cond (decide (a<(↑d.length:Int))) (
 Option.bind (ix d a) λo=>
 Option.bind (ix d a) λn=>
 Option.bind (FX N (⟨p0_w.b,p0_w.in_,(⟨p0_w.s.Hour,i,p0_w.s.Rem,p0_w.s.Queue,p0_w.s.Gates,p0_w.s.In,j⟩:Al),k,p0_w.peaks,l⟩:Ai) g n) λc=>
 Cz N p0_w g d m p (BD (a+1)) c.1 c.2.1 c.2.2.1 c.2.2.2) (
 m i j k l)
def Gu (N:Nat) (p0_w:Ai) (a:Int):Option ((List (List Int))×(List Int)×(List Int)×(List Av)×(List Az)):=
 Option.bind (ix p0_w.b.Places a) λi=>
 Option.bind (Gr N p0_w a) λc=>
 Option.bind (Gv N p0_w a) λd=>
 Option.bind (Bj N ([c,d]:List (List AM))) λg=>
 Cz N p0_w a g (Es N p0_w a i) N 0 p0_w.s.Own p0_w.s.Out p0_w.moves p0_w.sent
def FE (N:Nat) (k:Al) (c:(List (List Int))×(List Int)×(List Av)) (a:(List (List Int))×(List Az)×(List Ak)×(List Int)) (d:List (List Int)) (g:List Int) (i:List Int) (j:List Av) (b:List Az):Option (Al×(List Av)×(List Int)):=
 chk (J8 (a.2.1.length+b.length) 40) <|
 some ((⟨(BD (k.Hour+1)),d,g,(a.2.1++b),a.2.2.1,c.2.1,i⟩:Al),j,a.2.2.2)
def FD (N:Nat) (c:AZ) (d:Ca) (o:Al) (i:(List (List Int))×(List Int)×(List Av)) (b:(List (List Int))×(List Az)×(List Ak)×(List Int)) (p:(List (List Int))→(List Int)→(List Int)→(List Av)→(List Az)→Option (Al×(List Av)×(List Int))):Nat→Int→(List (List Int))→(List Int)→(List Int)→(List Av)→(List Az)→Option (Al×(List Av)×(List Int))
 |0,_,_,_,_,_,_=>none
 |q+1,g,j,k,l,m,n=>
 cond (decide (g<(↑c.Places.length:Int))) (
 Option.bind (Gu N (⟨c,d,(⟨o.Hour,j,k,b.2.1,b.2.2.1,i.2.1,l⟩:Al),m,b.2.2.2,n⟩:Ai) g) λa=>
 FD N c d o i b p q (BD (g+1)) a.1 a.2.1 a.2.2.1 a.2.2.2.1 a.2.2.2.2) (
 p j k l m n)
def H3 (N:Nat) (a:AZ) (j:Al) (c:Ca):Option (Al×(List Av)×(List Int)):=
 Option.bind (IU N j) λb=>
 chk (Iu (↑a.Places.length:Int) (↑a.Places.length:Int) 8) <|
 Option.bind (Gt N (⟨a,c,b,([]:List Av),(List.replicate ((↑a.Places.length:Int):Int).toNat (0:Int)),([]:List Az)⟩:Ai)) λg=>
 Option.bind (Gs N (⟨a,c,({ b with Gates:=g}:Al),([]:List Av),(List.replicate ((↑a.Places.length:Int):Int).toNat (0:Int)),([]:List Az)⟩:Ai)) λk=>
 Option.bind (HC N (⟨a,c,(⟨b.Hour,k,b.Rem,b.Queue,g,b.In,b.Out⟩:Al),([]:List Av),(List.replicate ((↑a.Places.length:Int):Int).toNat (0:Int)),([]:List Az)⟩:Ai)) λd=>
 Option.bind (Fk N (⟨a,c,(⟨b.Hour,d.1,b.Rem,b.Queue,g,d.2.1,b.Out⟩:Al),d.2.2,(List.replicate ((↑a.Places.length:Int):Int).toNat (0:Int)),([]:List Az)⟩:Ai)) λi=>
 FD N a c b d i (FE N b d i) N 0 i.1 b.Rem b.Out d.2.2 ([]:List Az)
def GZ (N:Nat):Option Bool:=
 some true
def FW (N:Nat) (a:(List Int)) (b:(List Int)) (c:Option Bool):Nat→Int→Option Bool
 |0,_=>none
 |j+1,d=>
 cond (decide (d<(↑a.length:Int))) (
 Option.bind (ix a d) λg=>
 Option.bind (ix b d) λi=>
 cond (decide (g≠i)) (
 some false) (
 FW N a b c j (BD (d+1)))) (
 c)
def Ch (N:Nat) (a:(List Int)) (b:(List Int)):Option Bool:=
 cond (decide ((↑a.length:Int)≠(↑b.length:Int))) (
 some false) (
 FW N a b (GZ N) N 0)
def Gw (N:Nat) (a:(List Int)) (c1_:(List Int)):Nat→Int→(List Int)→Option (List Int)
 |0,_,_=>none
 |j+1,b,c=>
 cond (decide (b<(min (↑c1_.length:Int) (↑a.length:Int)))) (
 Option.bind (ix c b) λk=>
 Option.bind (ix c b) λd=>
 Option.bind (ix a b) λg=>
 Option.bind (qZ N d g) λi=>
 Option.bind (ix c b) λl=>
 Option.bind (ix c b) λm=>
 Gw N a c1_ j (BD (b+1)) (upd c b i)) (
 some c)
def I1 (N:Nat) (c1_:(List Int)) (a:(List Int)):Option (List Int):=
 Gw N a c1_ N 0 c1_
def Hc (N:Nat) (a:Al) (c:(List Int)→Option (List Int)):Nat→Int→(List Int)→Option (List Int)
 |0,_,_=>none
 |j+1,b,d=>
 cond (decide (b<(↑a.Queue.length:Int))) (
 Option.bind (ix a.Queue b) λi=>
 Option.bind (I1 N d i.Part) λg=>
 Hc N a c j (BD (b+1)) g) (
 c d)
def Ig (N:Nat) (a:List Int):Option (List Int):=
 some a
def Ih (N:Nat) (a:Al) (b:List Int):Option (List Int):=
 Hc N a (Ig N) N 0 b
def Hd (N:Nat) (a:Al) (c:(List Int)→Option (List Int)):Nat→Int→(List Int)→Option (List Int)
 |0,_,_=>none
 |j+1,b,d=>
 cond (decide (b<(↑a.Own.length:Int))) (
 Option.bind (ix a.Own b) λg=>
 Option.bind (I1 N d g) λi=>
 Hd N a c j (BD (b+1)) i) (
 c d)
def LA (N:Nat) (a:Al):Option (List Int):=
 chk (Iu (↑a.In.length:Int) (↑a.In.length:Int) 8) <|
 Hd N a (Ih N a) N 0 (List.replicate ((↑a.In.length:Int):Int).toNat (0:Int))
def DE (N:Nat):Option Bool:=
 some true
def CT (N:Nat) (a:(List (List Int))) (b:(List (List Int))) (c:(((List Int)×(List Int))→Option Bool)) (g:Option Bool):Nat→Int→Option Bool
 |0,_=>none
 |l+1,d=>
 cond (decide (d<(↑a.length:Int))) (
 Option.bind (ix a d) λi=>
 Option.bind (ix b d) λj=>
 Option.bind (c (i,j)) λk=>
 cond (!k) (
 some false) (
 CT N a b c g l (BD (d+1)))) (
 g)
def Em (N:Nat) (a:(List (List Int))) (b:(List (List Int))) (c:(((List Int)×(List Int))→Option Bool)):Option Bool:=
 cond (decide ((↑a.length:Int)≠(↑b.length:Int))) (
 some false) (
 CT N a b c (DE N) N 0)
def FU (N:Nat):Option Bool:=
 some true
def EM (N:Nat) (a:(List Int)) (b:(List Int)) (c:Option Bool):Nat→Int→Option Bool
 |0,_=>none
 |j+1,d=>
 cond (decide (d<(↑a.length:Int))) (
 Option.bind (ix a d) λg=>
 Option.bind (ix b d) λi=>
 cond (decide (g≠i)) (
 some false) (
 EM N a b c j (BD (d+1)))) (
 c)
def C2 (N:Nat) (a:(List Int)) (b:(List Int)):Option Bool:=
 cond (decide ((↑a.length:Int)≠(↑b.length:Int))) (
 some false) (
 EM N a b (FU N) N 0)
def A9 (N:Nat):Option Bool:=
 some true
def Ar (N:Nat) (a:(List Az)) (b:(List Az)) (c:((Az×Az)→Option Bool)) (g:Option Bool):Nat→Int→Option Bool
 |0,_=>none
 |l+1,d=>
 cond (decide (d<(↑a.length:Int))) (
 Option.bind (ix a d) λi=>
 Option.bind (ix b d) λj=>
 Option.bind (c (i,j)) λk=>
 cond (!k) (
 some false) (
 Ar N a b c g l (BD (d+1)))) (
 g)
def BW (N:Nat) (a:(List Az)) (b:(List Az)) (c:((Az×Az)→Option Bool)):Option Bool:=
 cond (decide ((↑a.length:Int)≠(↑b.length:Int))) (
 some false) (
 Ar N a b c (A9 N) N 0)
def CD (N:Nat):Option Bool:=
 some true
def Bi (N:Nat) (a:(List Ak)) (b:(List Ak)) (c:Option Bool):Nat→Int→Option Bool
 |0,_=>none
 |j+1,d=>
 cond (decide (d<(↑a.length:Int))) (
 Option.bind (ix a d) λg=>
 Option.bind (ix b d) λi=>
 cond (!(Qh g.v i.v)) (
 some false) (
 Bi N a b c j (BD (d+1)))) (
 c)
def DC (N:Nat) (a:(List Ak)) (b:(List Ak)):Option Bool:=
 cond (decide ((↑a.length:Int)≠(↑b.length:Int))) (
 some false) (
 Bi N a b (CD N) N 0)
def If (N:Nat) (a:Az) (b:Az):Option Bool:=
 Option.bind (cond ((decide (a.At=b.At))&&(decide (a.To=b.To))) (Option.bind (C2 N a.Part b.Part) λc=>
 some c) (some false)) λd=>
 some d
def KZ (N:Nat) (a:Al) (b:Al):Option Bool:=
 Option.bind (cond (decide (a.Hour=b.Hour)) (Option.bind (Em N a.Own b.Own (λx=>C2 N x.1 x.2)) λc=>
 some c) (some false)) λd=>
 Option.bind (cond d (Option.bind (C2 N a.Rem b.Rem) λg=>
 some g) (some false)) λi=>
 Option.bind (cond i (Option.bind (BW N a.Queue b.Queue (λx=>If N x.1 x.2)) λj=>
 some j) (some false)) λk=>
 Option.bind (cond k (Option.bind (DC N a.Gates b.Gates) λl=>
 some l) (some false)) λm=>
 Option.bind (cond m (Option.bind (C2 N a.In b.In) λn=>
 some n) (some false)) λo=>
 Option.bind (cond o (Option.bind (C2 N a.Out b.Out) λp=>
 some p) (some false)) λq=>
 some q
def GA (N:Nat):Option Bool:=
 Option.bind (H6 N) λo=>
 Option.bind (LB N o 5) λc=>
 Option.bind (GL N o) λaa=>
 Option.bind (cond (!aa) (some true) (Option.bind (HT N o c) λp=>
 some (!p))) λab=>
 cond (ab||(decide ((↑c.Own.length:Int)≠1))) (
 some false) (
 Option.bind (H3 N o c (⟨[],[],[],[],[]⟩:Ca)) λa=>
 Option.bind (H3 N o c (⟨[],[],[],([(⟨0,1,60,(-1)⟩:Hw)]:List Hw),[]⟩:Ca)) λb=>
 cond ((((decide ((↑a.2.1.length:Int)≠2))||(decide ((↑b.2.1.length:Int)≠2)))||(decide ((↑a.1.Own.length:Int)≠1)))||(decide ((↑b.1.Own.length:Int)≠1))) (
 some false) (
 Option.bind (ix a.2.1 0) λac=>
 Option.bind (ix a.2.1 0) λq=>
 Option.bind (cond (decide (q.Way=(-1))) (Option.bind (ix a.2.1 0) λad=>
 Option.bind (ix a.2.1 0) λs=>
 Option.bind (Ch N s.Part ([10,5]:List Int)) λt=>
 some t) (some false)) λu=>
 Option.bind (cond u (Option.bind (ix a.2.1 1) λae=>
 Option.bind (ix a.2.1 1) λv=>
 some (decide (v.Way=(-2)))) (some false)) λw=>
 Option.bind (cond w (Option.bind (ix a.2.1 1) λaf=>
 Option.bind (ix a.2.1 1) λx=>
 Option.bind (Ch N x.Part ([10,5]:List Int)) λy=>
 some y) (some false)) λz=>
 Option.bind (cond z (Option.bind (Ch N a.2.2 ([150]:List Int)) λA=>
 some A) (some false)) λB=>
 Option.bind (ix a.1.Own 0) λC=>
 Option.bind (Ch N C ([80,40]:List Int)) λD=>
 Option.bind (cond D (Option.bind (Ch N a.1.Out ([20,10]:List Int)) λF=>
 some F) (some false)) λG=>
 Option.bind (cond G (some (decide (a.1.Hour=6))) (some false)) λH=>
 Option.bind (cond H (Option.bind (LA N a.1) λI=>
 Option.bind (Ch N I ([80,40]:List Int)) λJ=>
 some J) (some false)) λK=>
 Option.bind (ix b.2.1 0) λag=>
 Option.bind (ix b.2.1 0) λM=>
 Option.bind (cond (decide (M.Way=(-3))) (Option.bind (ix b.2.1 0) λah=>
 Option.bind (ix b.2.1 0) λQ=>
 Option.bind (Ch N Q.Part ([0,50]:List Int)) λU=>
 some U) (some false)) λV=>
 Option.bind (cond V (Option.bind (ix b.2.1 1) λai=>
 Option.bind (ix b.2.1 1) λW=>
 Option.bind (Ch N W.Part ([15,0]:List Int)) λX=>
 some X) (some false)) λY=>
 Option.bind (cond Y (Option.bind (ix b.1.Own 0) λZ=>
 Option.bind (Ch N Z ([85,0]:List Int)) λd=>
 some d) (some false)) λg=>
 Option.bind (cond ((B&&K)&&g) (Option.bind (KZ N c c) λi=>
 some i) (some false)) λj=>
 Option.bind (cond j (Option.bind (KZ N c a.1) λk=>
 some (!k)) (some false)) λl=>
 Option.bind (cond l (Option.bind (HT N o a.1) λm=>
 some m) (some false)) λn=>
 some n))
def Hv (N:Nat) (b:AZ) (c:Al) (a:Ca):Option Bool:=
 cond ((((decide (6<(↑b.Places.length:Int)))||(decide (6<(↑b.Links.length:Int))))||(decide (4<(↑b.Owners.length:Int))))||(decide (12<(↑c.Queue.length:Int)))) (
 some false) (
 some (((((decide ((↑a.Rain.length:Int)≤8))&&(decide ((↑a.Faults.length:Int)≤8)))&&(decide ((↑a.Cmds.length:Int)≤8)))&&(decide ((↑a.Takes.length:Int)≤8)))&&(decide ((↑a.Swaps.length:Int)≤8))))
def HU (N:Nat) (a:AZ) (b:Al) (c:Ca):Option Bool:=
 Option.bind (Hv N a b c) λd=>
 Option.bind (cond d (Option.bind (GL N a) λg=>
 some g) (some false)) λi=>
 Option.bind (cond i (Option.bind (HT N a b) λj=>
 some j) (some false)) λk=>
 some k
def Bt (N:Nat) (a:Bool):Option Bool:=
 some a
def D9 (N:Nat) (a:Int) (i:Int→Int→Int→Bool→Bool→Option Bool) (b:Int) (c:Int) (d:Bool) (g:Bool):Option Bool:=
 i (BD (a+1)) b c d g
def Bg (N:Nat) (a:Ca) (d:Int) (g:Au) (m:Int→Int→Bool→Bool→Option Bool):Nat→Int→Int→Int→Bool→Bool→Option Bool
 |0,_,_,_,_,_=>none
 |p+1,b,i,j,k,l=>
 cond (decide (b<(↑a.Faults.length:Int))) (
 Option.bind (ix a.Faults b) λn=>
 cond (decide (n.Link=d)) (
 Option.bind (ix a.Faults b) λo=>
 Option.bind (Gz N g (⟨i,j,k,l⟩:Ak) o.Kind) λc=>
 D9 N b (Bg N a d g m p) c.Pos c.Target c.Stuck c.Open) (
 D9 N b (Bg N a d g m p) i j k l)) (
 m i j k l)
def D8 (N:Nat) (a:Int) (i:Int→Int→Int→Bool→Bool→Option Bool) (b:Int) (c:Int) (d:Bool) (g:Bool):Option Bool:=
 i (BD (a+1)) b c d g
def Bf (N:Nat) (a:Ca) (d:Int) (g:Au) (m:Int→Int→Bool→Bool→Option Bool):Nat→Int→Int→Int→Bool→Bool→Option Bool
 |0,_,_,_,_,_=>none
 |p+1,b,i,j,k,l=>
 cond (decide (b<(↑a.Cmds.length:Int))) (
 Option.bind (ix a.Cmds b) λn=>
 cond (decide (n.Link=d)) (
 Option.bind (ix a.Cmds b) λo=>
 Option.bind (H5 N g (⟨i,j,k,l⟩:Ak) o.Target) λc=>
 D8 N b (Bf N a d g m p) c.Pos c.Target c.Stuck c.Open) (
 D8 N b (Bf N a d g m p) i j k l)) (
 m i j k l)
def Ci (N:Nat) (i:Al) (j:Ca) (g:Al×(List Av)×(List Int)) (b:Int) (a:Au) (x:Int→Option Bool) (k:Int) (l:Int) (m:Bool) (n:Bool):Option Bool:=
 Option.bind (Gy N a (⟨k,l,m,n⟩:Ak)) λo=>
 Option.bind (ix g.2.2 a.From) λy=>
 Option.bind (ix g.2.2 a.From) λp=>
 Option.bind (GG N a o p) λq=>
 Option.bind (ix g.1.Gates b) λc=>
 Option.bind (ix i.Gates b) λd=>
 Option.bind (ix g.1.Gates b) λs=>
 Option.bind (cond (((!(Qh s.v q.v))||(decide (a.Speed<(BD (c.Pos-d.Pos)))))||(decide ((BD (c.Pos-d.Pos))<(BD (0-a.Speed))))) (some true) (Option.bind (cond (decide ((↑j.Faults.length:Int)=0)) (Option.bind (ix i.Gates b) λt=>
 some t.Stuck) (some false)) λu=>
 some (u&&(decide ((BD (c.Pos-d.Pos))≠0))))) λw=>
 cond w (
 some false) (
 x (BD (b+1)))
def DT (N:Nat) (d:Al) (a:Ca) (l:Al×(List Av)×(List Int)) (b:Int) (c:Au) (m:Int→Option Bool) (g:Int) (i:Int) (j:Bool) (k:Bool):Option Bool:=
 Bf N a b c (Ci N d a l b c m) N 0 g i j k
def BF (N:Nat) (d:AZ) (g:Al) (b:Ca) (j:Al×(List Av)×(List Int)) (k:Option Bool):Nat→Int→Option Bool
 |0,_=>none
 |l+1,a=>
 cond (decide (a<(↑d.Links.length:Int))) (
 Option.bind (ix d.Links a) λi=>
 Option.bind (ix g.Gates a) λc=>
 Bg N b a i (DT N g b j a i (BF N d g b j k l)) N 0 c.Pos c.Target c.Stuck c.Open) (
 k)
def E2 (N:Nat) (a:AZ) (c:Al) (b:Ca):Option Bool:=
 Option.bind (GA N) λg=>
 Option.bind (HU N a c b) λi=>
 cond (!i) (
 some g) (
 Option.bind (H3 N a c b) λd=>
 cond ((decide ((↑d.1.Gates.length:Int)≠(↑a.Links.length:Int)))||(decide ((↑d.2.2.length:Int)≠(↑a.Places.length:Int)))) (
 some false) (
 BF N a c b d (Bt N g) N 0))
end Go.Proofs.YtblcgjadhemlbaaGreat
