import Derived.Test.YtibidnaedddfdaaGreatCReps
namespace Go.Proofs.YtibidnaedddfdaaGreat
set_option linter.unusedSimpArgs false
open Go.RowKit
set_option linter.unusedVariables false
def Gw (N:Nat) (s:(List Az)) (i:Int) (l:(List Az)):Option ((List Az)):=Vh 32 s i l
def IU (N:Nat) (b:EM) (a:B4):Option Int:=
 cond ((decide (0≤a.Crest))&&(decide (a.Crest≤(Aw (b.Lead+1))))) (
 some 3) (
 cond ((decide (0≤a.Crest))&&(decide (a.Crest≤(Aw ((Aw (2*b.Lead))+2))))) (
 some 2) (
 cond ((decide (0≤a.Crest))||a.Quorum) (
 some 1) (
 some 0)))
def Gy (N:Nat) (a:Bj) (b:Int):Option Bj:=
 cond (decide (2≤a.Calm)) (
 some (⟨b,0,0⟩:Bj)) (
 some (⟨a.Level,(Aw (a.Calm+1)),b⟩:Bj))
def JR (N:Nat) (d:EM) (a:Bj) (c:B4):Option Bj:=
 Option.bind (IU N d c) λb=>
 cond (decide (a.Level≤b)) (
 some (⟨b,0,0⟩:Bj)) (
 cond ((decide (3≤a.Level))&&(decide (0≤c.Crest))) (
 some (⟨a.Level,0,0⟩:Bj)) (
 cond (decide (a.Calm≠0)) (
 Gy N a (max b a.Then)) (
 Gy N a b)))
def HN (N:Nat) (a:List Bj):Option (List Bj):=
 some a
def Gd (N:Nat) (c:EM) (a:(List B4)) (i:(List Bj)→Option (List Bj)):Nat→(List Bj)→Int→Int→Int→Int→Option (List Bj)
 |0,_,_,_,_,_=>none
 |n+1,d,g,j,k,l=>
 cond (decide (g<(↑a.length:Int))) (
 Option.bind (ix a g) λm=>
 Option.bind (JR N c (⟨j,k,l⟩:Bj) m) λb=>
 chk (room (d.length+1) 24) <|
 Gd N c a i n (d++([b]:List Bj)) (Aw (g+1)) b.Level b.Calm b.Then) (
 i d)
def KG (N:Nat) (b:EM) (a:(List B4)):Option (List Bj):=
 chk (I6 0 (↑a.length:Int) 24) <|
 Gd N b a (HN N) N (List.replicate (0:Int).toNat (⟨0,0,0⟩:Bj)) 0 0 0 0
def Er (N:Nat) (a:(List Bj)):Option Bool:=
 some (decide ((↑a.length:Int)=(↑([1,2,3,3,3,3,1]:List Int).length:Int)))
def EJ (N:Nat) (b:(List Bj)) (c:Option Bool):Nat→Int→Option Bool
 |0,_=>none
 |j+1,a=>
 cond (decide (a<(↑([1,2,3,3,3,3,1]:List Int).length:Int))) (
 Option.bind (cond (decide ((↑b.length:Int)≤a)) (some true) (Option.bind (ix b a) λk=>
 Option.bind (ix b a) λd=>
 Option.bind (ix ([1,2,3,3,3,3,1]:List Int) a) λg=>
 some (decide (d.Level≠g)))) λi=>
 cond i (
 some false) (
 EJ N b c j (Aw (a+1)))) (
 c)
def Em (N:Nat):Option Bool:=
 Option.bind (KG N (⟨ByteArray.empty,0,0,3,0,0,0⟩:EM) MM) λa=>
 EJ N a (Er N a) N 0
def D4 (N:Nat):Option Bool:=
 some true
def Ch (N:Nat) (a:(List BJ)) (c:Option Bool):Nat→Int→Option Bool
 |0,_=>none
 |p+1,b=>
 cond (decide (b<(↑a.length:Int))) (
 Option.bind (ix a b) λd=>
 Option.bind (cond (decide (6<(↑d.Faults.length:Int))) (some true) (Option.bind (ix a b) λg=>
 some (decide (6<(↑g.Cmds.length:Int))))) λi=>
 Option.bind (cond i (some true) (Option.bind (ix a b) λj=>
 some (decide (6<(↑j.Takes.length:Int))))) λk=>
 Option.bind (cond k (some true) (Option.bind (ix a b) λl=>
 some (decide (6<(↑l.Swaps.length:Int))))) λm=>
 Option.bind (cond m (some true) (Option.bind (ix a b) λn=>
 some (decide (8<(↑n.Rain.length:Int))))) λo=>
 cond o (
 some false) (
 Ch N a c p (Aw (b+1)))) (
 c)
def FV (N:Nat) (c:AJ) (b:(List Be)) (a:(List BJ)):Option Bool:=
 cond ((((decide (6<(↑c.Places.length:Int)))||(decide (6<(↑c.Links.length:Int))))||(decide (3<(↑b.length:Int))))||(decide (6<(↑a.length:Int)))) (
 some false) (
 Ch N a (D4 N) N 0)
def C9 (N:Nat) (a:AD):Option Bool:=
 some (decide (a.Lo≤a.Hi))
def Dr (N:Nat):Option Bool:=
 some true
def DQ (N:Nat) (a:(List AD)) (d:Option Bool):Nat→Int→Option Bool
 |0,_=>none
 |i+1,b=>
 cond (decide (b<(↑a.length:Int))) (
 Option.bind (ix a b) λc=>
 Option.bind (C9 N c) λg=>
 cond (((!g)||(decide (c.Lo<0)))||(decide (1125899906842624<c.Hi))) (
 some false) (
 DQ N a d i (Aw (b+1)))) (
 d)
def FJ (N:Nat) (a:Int) (b:Int→Option Bool):Option Bool:=
 b (Aw (a+1))
def Cu (N:Nat) (b:AJ) (a:Be) (d:Option Bool):Nat→Int→Option Bool
 |0,_=>none
 |i+1,c=>
 cond (decide (c<(↑a.Rain.length:Int))) (
 Option.bind (ix a.Rain c) λg=>
 cond (decide ((↑g.length:Int)≠(↑b.Places.length:Int))) (
 some false) (
 DQ N g (FJ N c (Cu N b a d i)) N 0)) (
 d)
def HL (N:Nat) (b:AJ) (a:Be):Option Bool:=
 cond (((((decide (a.Id<0))||(decide (1073741824<a.Id)))||(decide (a.From<0)))||(decide (16777216<a.From)))||(decide (24<(↑a.Rain.length:Int)))) (
 some false) (
 Cu N b a (Dr N) N 0)
def Dl (N:Nat):Option Bool:=
 some true
def CS (N:Nat) (b:AJ) (a:(List Be)) (c:Option Bool):Nat→Int→Option Bool
 |0,_=>none
 |j+1,d=>
 cond (decide (d<(↑a.length:Int))) (
 Option.bind (ix a d) λg=>
 Option.bind (HL N b g) λi=>
 cond (!i) (
 some false) (
 CS N b a c j (Aw (d+1)))) (
 c)
def E7 (N:Nat) (b:AJ) (a:(List Be)):Option Bool:=
 CS N b a (Dl N) N 0
def BQ (N:Nat) (c:Int) (b:Int) (a:Int):Option Bool:=
 some ((decide (b≤c))&&(decide (c≤a)))
def BG (N:Nat) (a:Int):Option Bool:=
 Option.bind (BQ N a 0 1125899906842624) λb=>
 some b
def Ci (N:Nat) (a:AJ) (c:Option Bool):Nat→Int→Option Bool
 |0,_=>none
 |i+1,b=>
 cond (decide (b<(↑a.Room.length:Int))) (
 Option.bind (ix a.Room b) λd=>
 Option.bind (BG N d) λg=>
 cond (!g) (
 some false) (
 Ci N a c i (Aw (b+1)))) (
 c)
def D6 (N:Nat):Option Bool:=
 some true
def Ck (N:Nat) (a:AJ):Option Bool:=
 Ci N a (D6 N) N 0
def Cj (N:Nat) (a:AJ) (d:Option Bool):Nat→Int→Option Bool
 |0,_=>none
 |g+1,c=>
 cond (decide (c<(↑a.Name.size:Int))) (
 Option.bind (R5 a.Name c) λb=>
 cond ((((decide (b<32))||(decide (126<b)))||(decide (b=34)))||(decide (b=92))) (
 some false) (
 Cj N a d g (Aw (c+1)))) (
 d)
def FW (N:Nat) (a:AJ):Option Bool:=
 Option.bind (cond (decide (500<(↑a.Name.size:Int))) (some true) (Option.bind (BQ N (↑a.Owners.length:Int) 1 16) λb=>
 some (!b))) λc=>
 Option.bind (cond c (some true) (Option.bind (BQ N a.Cells 0 64) λd=>
 some (!d))) λg=>
 Option.bind (cond g (some true) (Option.bind (BQ N (↑a.Places.length:Int) 1 64) λi=>
 some (!i))) λj=>
 Option.bind (cond ((((((j||(decide (96<(↑a.Links.length:Int))))||(decide (40<(↑a.Towns.length:Int))))||(decide (128<(↑a.Gauges.length:Int))))||(decide (128<(↑a.Roads.length:Int))))||(decide (40<(↑a.Shelters.length:Int))))||(decide ((↑a.Room.length:Int)≠3))) (some true) (Option.bind (BQ N a.Err 0 1099511627776) λk=>
 some (!k))) λl=>
 cond l (
 some false) (
 Cj N a (Ck N a) N 0)
def Eh (N:Nat):Option Bool:=
 some true
def Dh (N:Nat) (a:ByteArray) (d:Option Bool):Nat→Int→Option Bool
 |0,_=>none
 |g+1,c=>
 cond (decide (c<(↑a.size:Int))) (
 Option.bind (R5 a c) λb=>
 cond ((((decide (b<97))||(decide (122<b)))&&((decide (b<48))||(decide (57<b))))&&(decide (b≠95))) (
 some false) (
 Dh N a d g (Aw (c+1)))) (
 d)
def Gc (N:Nat) (a:ByteArray):Option Bool:=
 Option.bind (cond (((decide ((↑a.size:Int)<1))||(decide (24<(↑a.size:Int))))||(a==(ByteArray.mk #[111,117,116]))) (some true) (Option.bind (R5 a 0) λb=>
 some (decide (b<97)))) λc=>
 Option.bind (cond c (some true) (Option.bind (R5 a 0) λd=>
 some (decide (122<d)))) λg=>
 cond g (
 some false) (
 Dh N a (Eh N) N 1)
def E3 (N:Nat) (a:(List (AE×Bool))) (b:ByteArray) (d:ByteArray):Option (Bool×(List (AE×Bool))):=
 Option.bind (Gc N b) λc=>
 cond ((!c)||((Mn (λk:AE=>Value.agg (AE.v k).toArray) a (⟨d,b⟩:AE)).getD false)) (
 some (false,a)) (
 some (true,(Ow (λk:AE=>Value.agg (AE.v k).toArray) a (⟨d,b⟩:AE) true)))
def Gt (N:Nat) (a:(List (AE×Bool))) (b:ByteArray) (c:ByteArray):Option (Bool×(List (AE×Bool))):=
 cond (b==(ByteArray.mk #[115,104,101,108,116,101,114])) (
 E3 N a c (ByteArray.mk #[116,111,119,110])) (
 E3 N a c b)
def Bi (N:Nat) (c2_:(List (AE×Bool))) (c3_:Bool) (a:ByteArray) (b:ByteArray):Option ((List (AE×Bool))×Bool):=
 Option.bind (Gt N c2_ a b) λc=>
 some (c.2,(c.1&&c3_))
def B8 (N:Nat) (a:AJ) (d:Bool→((List (AE×Bool)))→Option Bool):Nat→Int→Bool→((List (AE×Bool)))→Option Bool
 |0,_,_,_=>none
 |k+1,c,g,i=>
 cond (decide (c<(↑a.Places.length:Int))) (
 Option.bind (ix a.Places c) λj=>
 Option.bind (Bi N i g (ByteArray.mk #[112,108,97,99,101]) j.Name) λb=>
 B8 N a d k (Aw (c+1)) b.2 b.1) (
 d g i)
def B7 (N:Nat) (a:AJ) (i:Bool→((List (AE×Bool)))→Option Bool):Nat→Int→Bool→((List (AE×Bool)))→Option Bool
 |0,_,_,_=>none
 |k+1,b,c,d=>
 cond (decide (b<(↑a.Links.length:Int))) (
 Option.bind (ix a.Links b) λj=>
 Option.bind (Bi N d c (ByteArray.mk #[108,105,110,107]) j.Name) λg=>
 B7 N a i k (Aw (b+1)) g.2 g.1) (
 i c d)
def B6 (N:Nat) (a:AJ) (i:Bool→((List (AE×Bool)))→Option Bool):Nat→Int→Bool→((List (AE×Bool)))→Option Bool
 |0,_,_,_=>none
 |k+1,b,c,d=>
 cond (decide (b<(↑a.Towns.length:Int))) (
 Option.bind (ix a.Towns b) λj=>
 Option.bind (Bi N d c (ByteArray.mk #[116,111,119,110]) j.Name) λg=>
 B6 N a i k (Aw (b+1)) g.2 g.1) (
 i c d)
def B5 (N:Nat) (a:AJ) (i:Bool→((List (AE×Bool)))→Option Bool):Nat→Int→Bool→((List (AE×Bool)))→Option Bool
 |0,_,_,_=>none
 |k+1,b,c,d=>
 cond (decide (b<(↑a.Shelters.length:Int))) (
 Option.bind (ix a.Shelters b) λj=>
 Option.bind (Bi N d c (ByteArray.mk #[115,104,101,108,116,101,114]) j.Name) λg=>
 B5 N a i k (Aw (b+1)) g.2 g.1) (
 i c d)
def Bs (N:Nat) (a:AJ) (c:Bool→((List (AE×Bool)))→Option Bool):Nat→Int→Bool→((List (AE×Bool)))→Option Bool
 |0,_,_,_=>none
 |k+1,b,d,g=>
 cond (decide (b<(↑a.Gauges.length:Int))) (
 Option.bind (ix a.Gauges b) λj=>
 Option.bind (Bi N g d (ByteArray.mk #[103,97,117,103,101]) j.Name) λi=>
 Bs N a c k (Aw (b+1)) i.2 i.1) (
 c d g)
def Br (N:Nat) (a:AJ) (c:Bool→Option Bool):Nat→Int→Bool→((List (AE×Bool)))→Option Bool
 |0,_,_,_=>none
 |k+1,b,d,i=>
 cond (decide (b<(↑a.Roads.length:Int))) (
 Option.bind (ix a.Roads b) λj=>
 Option.bind (Bi N i d (ByteArray.mk #[114,111,97,100]) j.Name) λg=>
 Br N a c k (Aw (b+1)) g.2 g.1) (
 c d)
def Cp (N:Nat) (a:Bool):Option Bool:=
 some a
def Cq (N:Nat) (a:AJ) (b:Bool) (c:(List (AE×Bool))):Option Bool:=
 Br N a (Cp N) N 0 b c
def C2 (N:Nat) (a:AJ) (b:Bool) (c:(List (AE×Bool))):Option Bool:=
 Bs N a (Cq N a) N 0 b c
def C3 (N:Nat) (a:AJ) (b:Bool) (c:(List (AE×Bool))):Option Bool:=
 B5 N a (C2 N a) N 0 b c
def C4 (N:Nat) (a:AJ) (b:Bool) (c:(List (AE×Bool))):Option Bool:=
 B6 N a (C3 N a) N 0 b c
def C5 (N:Nat) (a:AJ) (b:Bool) (c:(List (AE×Bool))):Option Bool:=
 B7 N a (C4 N a) N 0 b c
def C6 (N:Nat) (a:AJ) (b:Bool) (c:(List (AE×Bool))):Option Bool:=
 B8 N a (C5 N a) N 0 b c
def B9 (N:Nat) (a:AJ) (c:Bool→((List (AE×Bool)))→Option Bool):Nat→Int→Bool→((List (AE×Bool)))→Option Bool
 |0,_,_,_=>none
 |k+1,b,d,g=>
 cond (decide (b<(↑a.Owners.length:Int))) (
 Option.bind (ix a.Owners b) λj=>
 Option.bind (Bi N g d (ByteArray.mk #[111,119,110,101,114]) j) λi=>
 B9 N a c k (Aw (b+1)) i.2 i.1) (
 c d g)
def F6 (N:Nat) (a:AJ):Option Bool:=
 B9 N a (C6 N a) N 0 true ([]:(List (AE×Bool)))
def ET (N:Nat):Option Bool:=
 some true
def Cx (N:Nat) (a:(List AU)) (d:Option Bool):Nat→Int→Option Bool
 |0,_=>none
 |l+1,c=>
 cond (decide (c<(↑a.length:Int))) (
 Option.bind (ix a c) λb=>
 cond ((((decide (b.X<0))||(decide (1125899906842624<b.X)))||(decide (b.Y<0)))||(decide (1125899906842624<b.Y))) (
 some false) (
 Option.bind (cond (decide (0<c)) (Option.bind (ix a (Aw (c-1))) λg=>
 Option.bind (cond (decide (b.X≤g.X)) (some true) (Option.bind (ix a (Aw (c-1))) λi=>
 some (decide (b.Y<i.Y)))) λj=>
 some j) (some false)) λk=>
 cond k (
 some false) (
 Cx N a d l (Aw (c+1))))) (
 d)
def Cy (N:Nat) (a:(List AU)):Option Bool:=
 cond ((decide ((↑a.length:Int)<1))||(decide (32<(↑a.length:Int)))) (
 some false) (
 Cx N a (ET N) N 0)
def EU (N:Nat) (a:Int) (b:Int):Option Bool:=
 Option.bind (BG N a) λc=>
 Option.bind (cond c (Option.bind (BG N b) λd=>
 some d) (some false)) λg=>
 some (g&&((decide (b≠0))||(decide (a=0))))
def DR (N:Nat) (b:Int) (a:Int):Option Bool:=
 Option.bind (BQ N b 0 (Aw (a-1))) λc=>
 some c
def Fu (N:Nat) (c:AJ) (b:Int) (a:Int):Option Bool:=
 Option.bind (cond (decide (a=(-1))) (some true) (Option.bind (DR N a (↑c.Places.length:Int)) λd=>
 some (d&&(decide (a≠b))))) λg=>
 some g
def A7 (N:Nat) (a:Int):Option Bool:=
 some (decide (a≤1125899906842624))
def Bq (N:Nat) (d:C7) (g:Int→Option Bool):Nat→Int→Int→Option Bool
 |0,_,_=>none
 |j+1,b,a=>
 cond (decide (a<(↑d.Start.length:Int))) (
 Option.bind (ix d.Start a) λc=>
 Option.bind (BG N c) λi=>
 cond (!i) (
 some false) (
 Bq N d g j (Aw (b+c)) (Aw (a+1)))) (
 g b)
def Bp (N:Nat) (c:AJ) (g:C7) (d:Int) (i:Int→Option Bool):Nat→Int→Int→Option Bool
 |0,_,_=>none
 |m+1,j,b=>
 cond (decide (b<(↑g.Rain.length:Int))) (
 Option.bind (ix g.Rain b) λa=>
 Option.bind (cond ((decide (a.Index≤j))||(decide (c.Cells≤a.Index))) (some true) (Option.bind (BG N a.Area) λk=>
 some (!k))) λl=>
 cond l (
 some false) (
 Bp N c g d i m a.Index (Aw (b+1)))) (
 i d)
def Co (N:Nat) (a:AJ) (c:C7) (d:Int→Option Bool) (b:Int):Option Bool:=
 Bp N a c b d N (-1) 0
def BU (N:Nat) (a:Int) (b:Int→Int→Option Bool) (c:Int):Option Bool:=
 b c (Aw (a+1))
def Av (N:Nat) (b:AJ) (d:Int→Option Bool):Nat→Int→Int→Option Bool
 |0,_,_=>none
 |y+1,g,c=>
 cond (decide (c<(↑b.Places.length:Int))) (
 Option.bind (ix b.Places c) λa=>
 Option.bind (BQ N a.Kind 0 3) λj=>
 Option.bind (cond (!j) (some true) (Option.bind (BQ N a.Office 0 2) λk=>
 some (!k))) λl=>
 Option.bind (cond l (some true) (Option.bind (BQ N a.Delay 0 240) λm=>
 some (!m))) λn=>
 Option.bind (cond n (some true) (Option.bind (BG N a.Cap) λo=>
 some (!o))) λp=>
 Option.bind (cond p (some true) (Option.bind (BG N a.Floor) λq=>
 some (!q))) λs=>
 Option.bind (cond s (some true) (Option.bind (Cy N a.Level) λt=>
 some (!t))) λu=>
 Option.bind (cond (u||(decide ((↑a.Start.length:Int)≠(↑b.Owners.length:Int)))) (some true) (Option.bind (EU N a.Num a.Den) λv=>
 some (!v))) λw=>
 Option.bind (cond w (some true) (Option.bind (Fu N b c a.Down) λi=>
 some (!i))) λx=>
 cond x (
 some false) (
 Bq N a (Co N b a (BU N c (Av N b d y))) N g 0)) (
 d g)
def Fd (N:Nat) (a:AJ):Option Bool:=
 Av N a (A7 N) N 0 0
def Fo (N:Nat) (a:Int):Option Int:=
 some a
def Dw (N:Nat) (b:(Int→Option Bool)) (d:Int→Option Int):Nat→Int→Int→Option Int
 |0,_,_=>none
 |i+1,a,c=>
 cond (decide (a<c)) (
 Option.bind (b (Aw (Ce .u64 (IntKind.wrap .u64 (Aw (a+c))) 1))) λg=>
 cond (!g) (
 Dw N b d i (Aw ((Aw (Ce .u64 (IntKind.wrap .u64 (Aw (a+c))) 1))+1)) c) (
 Dw N b d i a (Aw (Ce .u64 (IntKind.wrap .u64 (Aw (a+c))) 1)))) (
 d a)
def Hj (N:Nat) (a:Int) (b:(Int→Option Bool)):Option Int:=
 Dw N b (Fo N) N 0 a
def DP (N:Nat) (c1_:(List AU)) (c2_:Int) (a:Int):Option Bool:=
 Option.bind (ix c1_ a) λb=>
 some (decide (c2_<b.X))
def Ef (N:Nat) (a:Int) (b:Int):Option (Int×Int):=
 some ((IntKind.wrap .u64 ((IntKind.wrap .u64 ((IntKind.wrap .u64 ((Ce .u64 a 32)*(Ce .u64 b 32)))+(Ce .u64 (IntKind.wrap .u64 ((IntKind.wrap .u64 ((Ce .u64 a 32)*(FD .and .u64 b 4294967295)))+(Ce .u64 (IntKind.wrap .u64 ((FD .and .u64 a 4294967295)*(FD .and .u64 b 4294967295))) 32))) 32)))+(Ce .u64 (IntKind.wrap .u64 ((FD .and .u64 (IntKind.wrap .u64 ((IntKind.wrap .u64 ((Ce .u64 a 32)*(FD .and .u64 b 4294967295)))+(Ce .u64 (IntKind.wrap .u64 ((FD .and .u64 a 4294967295)*(FD .and .u64 b 4294967295))) 32))) 4294967295)+(IntKind.wrap .u64 ((FD .and .u64 a 4294967295)*(Ce .u64 b 32))))) 32))),(IntKind.wrap .u64 (a*b)))
def Dx (N:Nat) (a:Int) (b:Int):Option Int:=
 Option.bind (R5 Iy (IntKind.wrap .u8 a)) λc=>
 some (Aw (b+(Aw c)))
def Dy (N:Nat) (a:Int) (b:Int):Option Int:=
 cond (decide (256≤a)) (
 Dx N (Ce .u64 a 8) (Aw (b+8))) (
 Dx N a b)
def Dz (N:Nat) (a:Int) (b:Int):Option Int:=
 cond (decide (65536≤a)) (
 Dy N (Ce .u64 a 16) (Aw (b+16))) (
 Dy N a b)
def FQ (N:Nat) (a:Int):Option Int:=
 cond (decide (4294967296≤a)) (
 Dz N (Ce .u64 a 32) 32) (
 Dz N a 0)
def DF (N:Nat) (a:Int):Option Int:=
 Option.bind (FQ N a) λb=>
 some (Aw (64-b))
def CL (N:Nat) (b:Int) (a:Int) (d:Nat) (j:Nat) (g:Int→Option (Int×Int)):Nat→Int→Int→Option (Int×Int)
 |0,_,_=>none
 |k+1,i,c=>
 cond ((decide (4294967296≤c))||(decide ((IntKind.wrap .u64 ((IntKind.wrap .u64 (4294967296*i))+(FD .and .u64 (CH .u64 b j) 4294967295)))<(IntKind.wrap .u64 (c*(FD .and .u64 (CH .u64 a d) 4294967295)))))) (
 cond (decide (4294967296≤(IntKind.wrap .u64 (i+(Ce .u64 (CH .u64 a d) 32))))) (
 g (IntKind.wrap .u64 (c-1))) (
 CL N b a d j g k (IntKind.wrap .u64 (i+(Ce .u64 (CH .u64 a d) 32))) (IntKind.wrap .u64 (c-1)))) (
 g c)
def DG (N:Nat) (c:Int) (a:Int) (b:Int) (n:Int) (d:Nat) (k:Nat) (l:Nat) (g:Nat) (i:Int) (j:Int):Option (Int×Int):=
 Option.bind (LM (IntKind.wrap .u64 n)) λm=>
 some ((IntKind.wrap .u64 ((IntKind.wrap .u64 (i*4294967296))+j)),(Ce .u64 (IntKind.wrap .u64 ((IntKind.wrap .u64 ((IntKind.wrap .u64 ((IntKind.wrap .u64 ((IntKind.wrap .u64 ((IntKind.wrap .u64 ((FD .or .u64 (CH .u64 c k) (Ce .u64 a l))*4294967296))+(Ce .u64 (CH .u64 a g) 32)))-(IntKind.wrap .u64 (i*(CH .u64 b d)))))*4294967296))+(FD .and .u64 (CH .u64 a g) 4294967295)))-(IntKind.wrap .u64 (j*(CH .u64 b d))))) m))
def CM (N:Nat) (c:Int) (a:Int) (b:Int) (m:Int) (d:Nat) (i:Nat) (j:Nat) (g:Nat) (k:Int):Option (Int×Int):=
 Option.bind (Mm .u64 (IntKind.wrap .u64 ((IntKind.wrap .u64 ((IntKind.wrap .u64 ((FD .or .u64 (CH .u64 c i) (Ce .u64 a j))*4294967296))+(Ce .u64 (CH .u64 a g) 32)))-(IntKind.wrap .u64 (k*(CH .u64 b d))))) (Ce .u64 (CH .u64 b d) 32)) λl=>
 CL N a b d g (DG N c a b m d i j g k) N (IntKind.wrap .u64 ((IntKind.wrap .u64 ((IntKind.wrap .u64 ((IntKind.wrap .u64 ((FD .or .u64 (CH .u64 c i) (Ce .u64 a j))*4294967296))+(Ce .u64 (CH .u64 a g) 32)))-(IntKind.wrap .u64 (k*(CH .u64 b d)))))-(IntKind.wrap .u64 (l*(Ce .u64 (CH .u64 b d) 32))))) l
def Bt (N:Nat) (b:Int) (a:Int) (d:Nat) (j:Nat) (g:Int→Option (Int×Int)):Nat→Int→Int→Option (Int×Int)
 |0,_,_=>none
 |k+1,c,i=>
 cond ((decide (4294967296≤c))||(decide ((IntKind.wrap .u64 ((IntKind.wrap .u64 (4294967296*i))+(Ce .u64 (CH .u64 b j) 32)))<(IntKind.wrap .u64 (c*(FD .and .u64 (CH .u64 a d) 4294967295)))))) (
 cond (decide (4294967296≤(IntKind.wrap .u64 (i+(Ce .u64 (CH .u64 a d) 32))))) (
 g (IntKind.wrap .u64 (c-1))) (
 Bt N b a d j g k (IntKind.wrap .u64 (c-1)) (IntKind.wrap .u64 (i+(Ce .u64 (CH .u64 a d) 32))))) (
 g c)
def De (N:Nat) (c:Int) (b:Int) (a:Int):Option (Int×Int):=
 cond (decide (a=0)) (
 none) (
 cond (decide (a≤c)) (
 none) (
 cond (decide (c=0)) (
 Option.bind (Mm .u64 b a) λm=>
 Option.bind (Oq b a) λn=>
 some (m,n)) (
 Option.bind (DF N a) λj=>
 Option.bind (LM (IntKind.wrap .u64 j)) λd=>
 Option.bind (LM (IntKind.wrap .u64 j)) λg=>
 Option.bind (LM (IntKind.wrap .u64 (64-(IntKind.wrap .u64 j)))) λi=>
 Option.bind (LM (IntKind.wrap .u64 j)) λk=>
 Option.bind (Mm .u64 (FD .or .u64 (CH .u64 c g) (Ce .u64 b i)) (Ce .u64 (CH .u64 a d) 32)) λl=>
 Bt N b a d k (CM N c b a j d g i k) N l (IntKind.wrap .u64 ((FD .or .u64 (CH .u64 c g) (Ce .u64 b i))-(IntKind.wrap .u64 (l*(Ce .u64 (CH .u64 a d) 32))))))))
def EB (N:Nat) (c:Int) (b:Int) (a:Int):Option (Int×Int×Bool):=
 cond ((((((decide (c<0))||(decide (1125899906842624<c)))||(decide (b<0)))||(decide (1125899906842624<b)))||(decide (a<1)))||(decide (1125899906842624<a))) (
 some (0,0,false)) (
 Option.bind (Ef N (IntKind.wrap .u64 c) (IntKind.wrap .u64 b)) λg=>
 cond (decide ((IntKind.wrap .u64 a)≤g.1)) (
 some (0,0,false)) (
 Option.bind (De N g.1 g.2 (IntKind.wrap .u64 a)) λd=>
 cond (decide (1125899906842624<d.1)) (
 some (0,0,false)) (
 some ((Aw d.1),(Aw d.2),true))))
def Cv (N:Nat) (a:(List AU)) (d:Int):Option (Int×Bool):=
 Option.bind (Hj N (↑a.length:Int) (λx=>DP N a d x)) λb=>
 cond (decide (b=0)) (
 Option.bind (ix a 0) λi=>
 some (i.Y,false)) (
 Option.bind (ix a (Aw (b-1))) λc=>
 cond (decide (b=(↑a.length:Int))) (
 some (c.Y,false)) (
 Option.bind (ix a b) λj=>
 Option.bind (ix a b) λk=>
 Option.bind (EB N (Aw (d-c.X)) (Aw (j.Y-c.Y)) (Aw (k.X-c.X))) λg=>
 some ((Aw (c.Y+g.1)),(decide (0<g.2.1)))))
def CI (N:Nat) (b:(List AU)) (a:(List AU)) (i:Option Bool):Nat→Int→Option Bool
 |0,_=>none
 |j+1,c=>
 cond (decide (c<(↑a.length:Int))) (
 Option.bind (ix a c) λd=>
 Option.bind (Cv N b d.X) λg=>
 cond ((decide (d.Y<g.1))||((decide (g.1=d.Y))&&g.2)) (
 some false) (
 CI N b a i j (Aw (c+1)))) (
 i)
def DY (N:Nat):Option Bool:=
 some true
def Bm (N:Nat) (a:(List AU)) (b:(List AU)):Option Bool:=
 CI N a b (DY N) N 0
def Bw (N:Nat) (a:(List AU)) (b:(List AU)) (d:Option Bool):Nat→Int→Option Bool
 |0,_=>none
 |j+1,c=>
 cond (decide (c<(↑a.length:Int))) (
 Option.bind (ix a c) λg=>
 Option.bind (Cv N b g.X) λi=>
 cond (decide (i.1<g.Y)) (
 some false) (
 Bw N a b d j (Aw (c+1)))) (
 d)
def Cw (N:Nat) (a:(List AU)) (b:(List AU)):Option Bool:=
 Option.bind (Cy N a) λc=>
 Option.bind (cond (!c) (some true) (Option.bind (Cy N b) λd=>
 some (!d))) λg=>
 cond g (
 some false) (
 Bw N a b (Bm N a b) N 0)
def CQ (N:Nat) (a:AQ) (b:Bool):Option Bool:=
 cond b (
 Option.bind (BG N a.Crest) λc=>
 Option.bind (cond c (Option.bind (BG N a.Num) λd=>
 some d) (some false)) λg=>
 Option.bind (cond g (Option.bind (BQ N a.Den 1 1125899906842624) λi=>
 some i) (some false)) λj=>
 some j) (
 cond (decide (a.Kind=2)) (
 Option.bind (BG N a.Num) λk=>
 Option.bind (cond k (Option.bind (BQ N a.Positions 1 64) λl=>
 some l) (some false)) λm=>
 Option.bind (cond m (Option.bind (BQ N a.Speed 0 a.Positions) λn=>
 some n) (some false)) λo=>
 some o) (
 cond (decide (a.Kind=3)) (
 Option.bind (BG N a.Num) λp=>
 Option.bind (cond p (Option.bind (BQ N a.Den 1 1125899906842624) λq=>
 some q) (some false)) λs=>
 Option.bind (cond s (Option.bind (BG N a.Prime) λt=>
 some t) (some false)) λu=>
 Option.bind (cond u (Option.bind (BG N a.Break) λv=>
 some v) (some false)) λw=>
 some (w&&(decide (a.Break<a.Prime)))) (
 Option.bind (BG N a.Num) λx=>
 Option.bind (cond x (Option.bind (BQ N a.Den 1 1125899906842624) λy=>
 some y) (some false)) λz=>
 Option.bind (cond z (Option.bind (EU N a.BackNum a.BackDen) λA=>
 some A) (some false)) λB=>
 some (B&&(decide (a.To≠(-1)))))))
def Dd (N:Nat) (a:AQ):Option Bool:=
 cond (decide (a.Kind=0)) (
 Option.bind (Cy N a.Rate) λb=>
 Option.bind (cond b (Option.bind (Cy N a.Band.Lo) λc=>
 some c) (some false)) λd=>
 Option.bind (cond d (Option.bind (Cy N a.Band.Hi) λg=>
 some g) (some false)) λi=>
 Option.bind (cond i (Option.bind (Cw N a.Band.Lo a.Rate) λj=>
 some j) (some false)) λk=>
 Option.bind (cond k (Option.bind (Cw N a.Rate a.Band.Hi) λl=>
 some l) (some false)) λm=>
 Option.bind (cond m (Option.bind (BQ N a.Positions 0 64) λn=>
 some n) (some false)) λo=>
 Option.bind (cond o (Option.bind (BQ N a.Speed 0 a.Positions) λp=>
 some p) (some false)) λq=>
 Option.bind (cond q (Option.bind (BG N a.Leak) λs=>
 some s) (some false)) λt=>
 Option.bind (cond t (Option.bind (EU N a.BackNum a.BackDen) λu=>
 some u) (some false)) λv=>
 some (v&&((decide (a.To≠(-1)))||(decide (a.BackDen=0))))) (
 cond (decide (a.Kind=1)) (
 CQ N a (decide (a.Kind=1))) (
 CQ N a (decide (a.Kind=5))))
def Dc (N:Nat) (a:AQ):Option Bool:=
 cond ((!(decide (a.Kind=0)))&&((((decide (0<(↑a.Rate.length:Int)))||(decide (0<(↑a.Band.Lo.length:Int))))||(decide (0<(↑a.Band.Hi.length:Int))))||(decide (a.Leak≠0)))) (
 some false) (
 cond (((!(decide (a.Kind=0)))&&(decide (a.Kind≠2)))&&((decide (a.Positions≠0))||(decide (a.Speed≠0)))) (
 some false) (
 cond (((decide (a.Kind≠1))&&(decide (a.Kind≠5)))&&(decide (a.Crest≠0))) (
 some false) (
 cond (((decide (a.Kind=0))&&(decide (a.Num≠0)))||(((decide (a.Kind=0))||(decide (a.Kind=2)))&&(decide (a.Den≠0)))) (
 some false) (
 cond ((decide (a.Kind≠3))&&((decide (a.Prime≠0))||(decide (a.Break≠0)))) (
 some false) (
 some (((decide (a.Kind=0))||(decide (a.Kind=4)))||((decide (a.BackNum=0))&&(decide (a.BackDen=0)))))))))
def CA (N:Nat):Option Bool:=
 some true
def BR (N:Nat) (a:AJ) (d:Option Bool):Nat→Int→Option Bool
 |0,_=>none
 |t+1,c=>
 cond (decide (c<(↑a.Links.length:Int))) (
 Option.bind (ix a.Links c) λb=>
 Option.bind (BQ N b.Kind 0 5) λg=>
 Option.bind (cond (!g) (some true) (Option.bind (DR N b.From (↑a.Places.length:Int)) λi=>
 some (!i))) λj=>
 Option.bind (cond j (some true) (Option.bind (Fu N a b.From b.To) λk=>
 some (!k))) λl=>
 Option.bind (cond l (some true) (Option.bind (BQ N b.Delay 0 240) λm=>
 some (!m))) λn=>
 Option.bind (cond n (some true) (Option.bind (Dd N b) λo=>
 some (!o))) λp=>
 Option.bind (cond p (some true) (Option.bind (Dc N b) λq=>
 some (!q))) λs=>
 cond s (
 some false) (
 BR N a d t (Aw (c+1)))) (
 d)
def DH (N:Nat) (a:AJ):Option Bool:=
 BR N a (CA N) N 0
def Gi (N:Nat) (c:AJ) (a:Int) (b:Int):Option Bool:=
 cond (decide (b=(-1))) (
 some (decide (a=2))) (
 Option.bind (ix c.Places b) λd=>
 some ((decide (d.Office=a))||(decide (d.Office=(Aw (a+1))))))
def CC (N:Nat) (a:AJ) (g:Option Bool):Nat→Int→Option Bool
 |0,_=>none
 |m+1,d=>
 cond (decide (d<(↑a.Links.length:Int))) (
 Option.bind (ix a.Links d) λb=>
 Option.bind (ix a.Places b.From) λc=>
 Option.bind (Gi N a c.Office b.To) λi=>
 Option.bind (cond (!i) (some true) (Option.bind (cond (decide (b.Kind=4)) (Option.bind (ix a.Places b.To) λj=>
 some (decide (j.Office≠c.Office))) (some false)) λk=>
 some k)) λl=>
 cond l (
 some false) (
 CC N a g m (Aw (d+1)))) (
 g)
def DC (N:Nat):Option Bool:=
 some true
def CE (N:Nat) (a:AJ):Option Bool:=
 CC N a (DC N) N 0
def CD (N:Nat) (a:AJ) (c:Option Bool):Nat→Int→Option Bool
 |0,_=>none
 |i+1,b=>
 cond (decide (b<(↑a.Places.length:Int))) (
 Option.bind (ix a.Places b) λd=>
 Option.bind (Gi N a d.Office d.Down) λg=>
 cond (!g) (
 some false) (
 CD N a c i (Aw (b+1)))) (
 c)
def Ec (N:Nat) (a:AJ):Option Bool:=
 CD N a (CE N a) N 0
def E2 (N:Nat) (a:Int):Option Int:=
 some (Aw a)
def Cd (N:Nat) (b:Int) (a:Int):Option Int:=
 cond (decide (a=0)) (
 some 0) (
 cond (decide (a<b)) (
 some 1099511627777) (
 Option.bind (Ef N (IntKind.wrap .u64 b) 1099511627776) λd=>
 Option.bind (De N d.1 d.2 (IntKind.wrap .u64 a)) λc=>
 cond (decide (c.2≠0)) (
 E2 N (IntKind.wrap .u64 (c.1+1))) (
 E2 N c.1)))
def BD (N:Nat) (a:Int):Option Int:=
 some a
def BC (N:Nat) (a:(List AU)) (c:Int→Option Int):Nat→Int→Int→Option Int
 |0,_,_=>none
 |m+1,d,b=>
 cond (decide (b<(↑a.length:Int))) (
 Option.bind (ix a b) λg=>
 Option.bind (ix a (Aw (b-1))) λi=>
 Option.bind (ix a b) λj=>
 Option.bind (ix a (Aw (b-1))) λk=>
 Option.bind (Cd N (Aw (g.Y-i.Y)) (Aw (j.X-k.X))) λl=>
 BC N a c m (max d l) (Aw (b+1))) (
 c d)
def BW (N:Nat) (a:Int) (b:Int→Int→Option Int) (c:Int):Option Int:=
 b c (Aw (a+1))
def Ay (N:Nat) (a:(List (List AU))) (c:Int→Option Int):Nat→Int→Int→Option Int
 |0,_,_=>none
 |i+1,g,b=>
 cond (decide (b<(↑a.length:Int))) (
 Option.bind (ix a b) λd=>
 BC N d (BW N b (Ay N a c i)) N g 1) (
 c g)
def DZ (N:Nat) (a:(List (List AU))):Option Int:=
 Ay N a (BD N) N 0 0
def Ar (N:Nat) (b:Int) (c:Int→(List Int)→Option Bool) (a:List Int):Option Bool:=
 c (Aw (b+1)) a
def Bh (N:Nat) (b:List Int) (a:AQ) (g:(List Int)→Option Bool) (i:Bool):Option Bool:=
 cond i (
 Option.bind (ix b a.From) λn=>
 Option.bind (ix b a.From) λj=>
 Option.bind (Cd N a.Num a.Den) λk=>
 Option.bind (ix b a.From) λo=>
 Option.bind (ix b a.From) λp=>
 g (upd b a.From (Aw (j+k)))) (
 cond (decide (a.Kind=4)) (
 Option.bind (ix b a.From) λq=>
 Option.bind (ix b a.From) λc=>
 Option.bind (Cd N a.Num a.Den) λd=>
 Option.bind (ix b a.From) λs=>
 Option.bind (ix b a.From) λt=>
 Option.bind (ix (upd b a.From (Aw (c+(Aw (2*d))))) a.To) λu=>
 Option.bind (ix (upd b a.From (Aw (c+(Aw (2*d))))) a.To) λl=>
 Option.bind (Cd N a.BackNum a.BackDen) λm=>
 Option.bind (ix (upd b a.From (Aw (c+(Aw (2*d))))) a.To) λv=>
 Option.bind (ix (upd b a.From (Aw (c+(Aw (2*d))))) a.To) λw=>
 g (upd (upd b a.From (Aw (c+(Aw (2*d))))) a.To (Aw (l+(Aw (2*m)))))) (
 g b))
def Es (N:Nat) (b:Bool→Option Bool) (a:Bool):Option Bool:=
 b a
def AY (N:Nat) (c:AJ) (j:(List Int)→Option Bool):Nat→Int→(List Int)→Option Bool
 |0,_,_=>none
 |k+1,i,b=>
 cond (decide (i<(↑c.Links.length:Int))) (
 Option.bind (ix c.Links i) λa=>
 cond (decide (a.Kind=0)) (
 Option.bind (ix b a.From) λn=>
 Option.bind (ix b a.From) λd=>
 Option.bind (DZ N ([a.Rate,a.Band.Lo,a.Band.Hi]:List (List AU))) λg=>
 Option.bind (ix b a.From) λo=>
 Option.bind (ix b a.From) λp=>
 cond (decide (a.To≠(-1))) (
 Option.bind (ix (upd b a.From (Aw (d+g))) a.To) λq=>
 Option.bind (ix (upd b a.From (Aw (d+g))) a.To) λl=>
 Option.bind (Cd N a.BackNum a.BackDen) λm=>
 Option.bind (ix (upd b a.From (Aw (d+g))) a.To) λs=>
 Option.bind (ix (upd b a.From (Aw (d+g))) a.To) λt=>
 Ar N i (AY N c j k) (upd (upd b a.From (Aw (d+g))) a.To (Aw (l+m)))) (
 Ar N i (AY N c j k) (upd b a.From (Aw (d+g))))) (
 cond (decide (a.Kind=1)) (
 Bh N b a (Ar N i (AY N c j k)) (decide (a.Kind=1))) (
 cond (decide (a.Kind=5)) (
 Es N (Bh N b a (Ar N i (AY N c j k))) (decide (a.Kind=5))) (
 Es N (Bh N b a (Ar N i (AY N c j k))) (decide (a.Kind=3)))))) (
 j b)
def BH (N:Nat) (b:List Int) (c:Option Bool):Nat→Int→Option Bool
 |0,_=>none
 |i+1,a=>
 cond (decide (a<(↑b.length:Int))) (
 Option.bind (ix b a) λg=>
 Option.bind (ix b a) λd=>
 cond (decide (1099511627776<d)) (
 some false) (
 BH N b c i (Aw (a+1)))) (
 c)
def Bo (N:Nat):Option Bool:=
 some true
def Au (N:Nat) (a:List Int):Option Bool:=
 BH N a (Bo N) N 0
def A6 (N:Nat) (a:AJ) (b:List Int):Option Bool:=
 AY N a (Au N) N 0 b
def BI (N:Nat) (b:AJ) (d:(List Int)→Option Bool):Nat→Int→(List Int)→Option Bool
 |0,_,_=>none
 |j+1,a,c=>
 cond (decide (a<(↑b.Places.length:Int))) (
 Option.bind (ix b.Places a) λg=>
 Option.bind (Cd N g.Num g.Den) λi=>
 Option.bind (ix c a) λk=>
 Option.bind (ix c a) λl=>
 BI N b d j (Aw (a+1)) (upd c a i)) (
 d c)
def C1 (N:Nat) (a:AJ):Option Bool:=
 chk (I6 (↑a.Places.length:Int) (↑a.Places.length:Int) 8) <|
 BI N a (A6 N a) N 0 (List.replicate ((↑a.Places.length:Int):Int).toNat 0)
def CT (N:Nat) (a:AJ) (c:Option Bool):Nat→Int→Option Bool
 |0,_=>none
 |i+1,b=>
 cond (decide (b<(↑a.Shelters.length:Int))) (
 Option.bind (ix a.Shelters b) λd=>
 Option.bind (BQ N d.Room 0 1073741824) λg=>
 cond (!g) (
 some false) (
 CT N a c i (Aw (b+1)))) (
 c)
def Dm (N:Nat):Option Bool:=
 some true
def CV (N:Nat) (a:AJ):Option Bool:=
 CT N a (Dm N) N 0
def CU (N:Nat) (a:AJ) (d:Option Bool):Nat→Int→Option Bool
 |0,_=>none
 |t+1,c=>
 cond (decide (c<(↑a.Towns.length:Int))) (
 Option.bind (ix a.Towns c) λb=>
 Option.bind (DR N b.Place (↑a.Places.length:Int)) λg=>
 Option.bind (cond (!g) (some true) (Option.bind (BG N b.Flood) λi=>
 some (!i))) λj=>
 Option.bind (cond j (some true) (Option.bind (BQ N b.Lead 0 24) λk=>
 some (!k))) λl=>
 Option.bind (cond l (some true) (Option.bind (BQ N b.People 0 1073741824) λm=>
 some (!m))) λn=>
 Option.bind (cond n (some true) (Option.bind (BG N b.Watch) λo=>
 some (!o))) λp=>
 Option.bind (cond p (some true) (Option.bind (BQ N b.Quorum 0 128) λq=>
 some (!q))) λs=>
 cond s (
 some false) (
 CU N a d t (Aw (c+1)))) (
 d)
def E8 (N:Nat) (a:AJ):Option Bool:=
 CU N a (CV N a) N 0
def Da (N:Nat):Option Bool:=
 some true
def CP (N:Nat) (a:AJ) (d:Option Bool):Nat→Int→Option Bool
 |0,_=>none
 |o+1,c=>
 cond (decide (c<(↑a.Gauges.length:Int))) (
 Option.bind (ix a.Gauges c) λb=>
 Option.bind (BQ N b.Kind 0 2) λg=>
 Option.bind (cond (!g) (some true) (Option.bind (BQ N b.Err 0 1099511627776) λi=>
 some (!i))) λj=>
 Option.bind (cond j (some true) (Option.bind (BQ N b.Drift 0 1440) λk=>
 some (!k))) λl=>
 cond l (
 some false) (
 Option.bind (ix ([(↑a.Places.length:Int),a.Cells,(↑a.Links.length:Int)]:List Int) b.Kind) λm=>
 Option.bind (DR N b.Target m) λn=>
 cond (!n) (
 some false) (
 CP N a d o (Aw (c+1))))) (
 d)
def En (N:Nat) (a:AJ):Option Bool:=
 CP N a (Da N) N 0
def Dn (N:Nat):Option Bool:=
 some true
def CW (N:Nat) (a:AJ) (d:Option Bool):Nat→Int→Option Bool
 |0,_=>none
 |u+1,c=>
 cond (decide (c<(↑a.Roads.length:Int))) (
 Option.bind (ix a.Roads c) λb=>
 Option.bind (DR N b.From (↑a.Towns.length:Int)) λg=>
 Option.bind (cond (!g) (some true) (Option.bind (DR N b.To (Aw ((↑a.Towns.length:Int)+(↑a.Shelters.length:Int)))) λi=>
 some (!i))) λj=>
 Option.bind (cond (j||(decide (b.From=b.To))) (some true) (Option.bind (BQ N b.Hours 1 24) λk=>
 some (!k))) λl=>
 Option.bind (cond l (some true) (Option.bind (BQ N b.Flow 0 1073741824) λm=>
 some (!m))) λn=>
 Option.bind (cond n (some true) (Option.bind (BG N b.Limit) λo=>
 some (!o))) λp=>
 cond p (
 some false) (
 Option.bind (cond ((decide (b.By=(-1)))&&(decide (b.Limit≠0))) (some true) (Option.bind (cond (decide (b.By≠(-1))) (Option.bind (DR N b.By (↑a.Places.length:Int)) λq=>
 some (!q)) (some false)) λs=>
 some s)) λt=>
 cond t (
 some false) (
 CW N a d u (Aw (c+1))))) (
 d)
def E9 (N:Nat) (a:AJ):Option Bool:=
 CW N a (Dn N) N 0
def FZ (N:Nat) (a:AJ):Option Bool:=
 Option.bind (FW N a) λv=>
 Option.bind (cond v (Option.bind (F6 N a) λb=>
 some b) (some false)) λc=>
 Option.bind (cond c (Option.bind (Fd N a) λd=>
 some d) (some false)) λg=>
 Option.bind (cond g (Option.bind (DH N a) λi=>
 some i) (some false)) λj=>
 Option.bind (cond j (Option.bind (Ec N a) λk=>
 some k) (some false)) λl=>
 Option.bind (cond l (Option.bind (C1 N a) λm=>
 some m) (some false)) λn=>
 Option.bind (cond n (Option.bind (E8 N a) λo=>
 some o) (some false)) λp=>
 Option.bind (cond p (Option.bind (En N a) λq=>
 some q) (some false)) λs=>
 Option.bind (cond s (Option.bind (E9 N a) λt=>
 some t) (some false)) λu=>
 some u
def GW (N:Nat) (a:AD) (b:AD):Option AD:=
 some (⟨(min a.Lo b.Lo),(max a.Hi b.Hi)⟩:AD)
def FY (N:Nat) (b:AD) (a:AD):Option Bool:=
 Option.bind (GW N b a) λc=>
 some (N0 c.v a.v)
def Ep (N:Nat) (b:Int) (a:Int):Option Bool:=
 some ((decide (0≤b))&&(decide (b<a)))
def GC (N:Nat) (a:Int):Option Bool:=
 some (decide (a≠a))
def Eg (N:Nat) (a:Int) (b:Int):Option Int:=
 Option.bind (GC N a) λd=>
 Option.bind (GC N b) λc=>
 cond d (
 cond c (
 some 0) (
 some (-1))) (
 cond c (
 some 1) (
 cond (decide (a<b)) (
 some (-1)) (
 cond (decide (b<a)) (
 some 1) (
 some 0))))
def GD (N:Nat):Option Int:=
 some 0
def FI (N:Nat) (a:(List Int)) (b:Option Int):Nat→Int→Option Int
 |0,_=>none
 |g+1,d=>
 cond (decide (d<(↑a.length:Int))) (
 Option.bind (ix a d) λc=>
 cond (decide (c≠0)) (
 some c) (
 FI N a b g (Aw (d+1)))) (
 b)
def HK (N:Nat) (a:(List Int)):Option Int:=
 FI N a (GD N) N 0
def DX (N:Nat) (a:Az) (b:Az):Option Int:=
 Option.bind (Eg N a.At b.At) λc=>
 Option.bind (Eg N a.To b.To) λd=>
 Option.bind (HK N ([c,d]:List Int)) λg=>
 some g
def GX (N:Nat) (a:AD) (b:Int):Option Bool:=
 some ((decide (a.Lo≤b))&&(decide (b≤a.Hi)))
def Dk (N:Nat) (a:Int):Option AD:=
 some (⟨a,a⟩:AD)
def Ez (N:Nat) (b:AQ) (a:AT):Option Bool:=
 Option.bind (C9 N a.Pos) λj=>
 Option.bind (cond (!j) (some true) (Option.bind (FY N a.Pos (⟨0,b.Positions⟩:AD)) λk=>
 some (!k))) λl=>
 Option.bind (cond l (some true) (Option.bind (GX N (⟨0,b.Positions⟩:AD) a.Target) λm=>
 some (!m))) λn=>
 cond n (
 some false) (
 Option.bind (Dk N 0) λc=>
 Option.bind (Dk N 1) λd=>
 cond ((decide (b.Kind≠5))&&(decide (b.Kind≠3))) (
 some (N0 a.Open.v c.v)) (
 Option.bind (cond ((N0 a.Open.v c.v)||(N0 a.Open.v d.v)) (some true) (Option.bind (GW N c d) λg=>
 some (N0 a.Open.v g.v))) λi=>
 some i))
def DK (N:Nat) (d:AJ) (b:BT) (g:Option Bool):Nat→Int→Option Bool
 |0,_=>none
 |q+1,c=>
 cond (decide (c<(↑b.Queue.length:Int))) (
 Option.bind (ix b.Queue c) λa=>
 Option.bind (C9 N a.Vol) λi=>
 Option.bind (cond (!i) (some true) (Option.bind (FY N a.Vol (⟨0,1125899906842624⟩:AD)) λj=>
 some (!j))) λk=>
 Option.bind (cond ((k||(decide (a.Vol.Hi≤0)))||(decide (a.At<b.Hour))) (some true) (Option.bind (Ep N a.To (↑d.Places.length:Int)) λl=>
 some (!l))) λm=>
 cond m (
 some false) (
 Option.bind (cond (decide (0<c)) (Option.bind (ix b.Queue (Aw (c-1))) λn=>
 Option.bind (DX N n a) λo=>
 some (decide (0≤o))) (some false)) λp=>
 cond p (
 some false) (
 DK N d b g q (Aw (c+1))))) (
 g)
def DJ (N:Nat) (c:AJ) (b:BT) (d:Option Bool):Nat→Int→Option Bool
 |0,_=>none
 |k+1,a=>
 cond (decide (a<(↑b.Links.length:Int))) (
 Option.bind (ix b.Links a) λg=>
 Option.bind (ix c.Links a) λi=>
 Option.bind (Ez N i g) λj=>
 cond (!j) (
 some false) (
 DJ N c b d k (Aw (a+1)))) (
 d)
def Dq (N:Nat):Option Bool:=
 some true
def DM (N:Nat) (a:AJ) (b:BT):Option Bool:=
 DJ N a b (Dq N) N 0
def DN (N:Nat) (a:AJ) (b:BT):Option Bool:=
 DK N a b (DM N a b) N 0
def DL (N:Nat) (a:BT) (c:Option Bool):Nat→Int→Option Bool
 |0,_=>none
 |k+1,b=>
 cond (decide (b<(↑a.Vol.length:Int))) (
 Option.bind (ix a.Vol b) λd=>
 Option.bind (C9 N d) λg=>
 Option.bind (cond (!g) (some true) (Option.bind (FY N d (⟨0,1125899906842624⟩:AD)) λi=>
 some (!i))) λj=>
 cond j (
 some false) (
 DL N a c k (Aw (b+1)))) (
 c)
def HH (N:Nat) (b:AJ) (a:BT):Option Bool:=
 cond ((((decide (a.Hour<0))||(decide (16777216<a.Hour)))||(decide ((↑a.Vol.length:Int)≠(↑b.Places.length:Int))))||(decide ((↑a.Links.length:Int)≠(↑b.Links.length:Int)))) (
 some false) (
 DL N a (DN N b a) N 0)
def Hk (N:Nat) (c:AJ) (d:BT) (g:Be) (b:(List BJ)) (a:(List Bool)) (i:Int):Option (BT×Int×(List BJ)×AJ×(List Bool)×Be):=
 some (d,i,b,c,a,g)
def HM (N:Nat) (a:List AD):Option (List AD):=
 some a
def Ha (N:Nat) (c:Be) (b:Int) (a:Int):Option (List AD):=
 cond ((decide (a<1))||(decide (64<a))) (
 some ([])) (
 chk (I6 a a 16) <|
 cond (decide (b<c.From)) (
 some (List.replicate (a:Int).toNat (⟨0,0⟩:AD))) (
 cond ((decide (0≤(Aw (b-c.From))))&&(decide ((Aw (b-c.From))<(↑c.Rain.length:Int)))) (
 Option.bind (ix c.Rain (Aw (b-c.From))) λd=>
 HM N (Vz (List.replicate (a:Int).toNat (⟨0,0⟩:AD)) d)) (
 HM N (List.replicate (a:Int).toNat (⟨0,0⟩:AD)))))
def Bg (N:Nat) (a:(List AD)):Option (List AD):=
 chk (room (([]:List AD).length+a.length) 16) <|
 some (([]:List AD)++a)
def Bd (N:Nat) (a:(List AT)):Option (List AT):=
 chk (room (([]:List AT).length+a.length) 40) <|
 some (([]:List AT)++a)
def Ew (N:Nat) (c:Int) (b:Int) (a:Int):Option Int:=
 cond (decide (c<b)) (
 some b) (
 cond (decide (a<c)) (
 some a) (
 some c))
def Gs (N:Nat) (a:Db) (b:Int):Option Db:=
 some ({ a with Target:=b}:Db)
def IS (N:Nat) (c:AQ) (b:Db) (a:Int):Option Db:=
 cond (decide (c.Positions≠0)) (
 Option.bind (Ew N a 0 c.Positions) λd=>
 Gs N b d) (
 Gs N b b.Target)
def CR (N:Nat) (b:Int) (a:Int):Option Int:=
 cond ((decide (a<0))&&(decide ((Aw (9223372036854775807+a))<b))) (
 some 9223372036854775807) (
 cond ((decide (0<a))&&(decide (b<(Aw ((-9223372036854775808)+a))))) (
 some (-9223372036854775808)) (
 some (Aw (b-a))))
def Dg (N:Nat) (b:Int) (a:Int):Option Int:=
 cond ((decide (0<a))&&(decide ((Aw (9223372036854775807-a))<b))) (
 some 9223372036854775807) (
 cond ((decide (a<0))&&(decide (b<(Aw ((-9223372036854775808)-a))))) (
 some (-9223372036854775808)) (
 some (Aw (b+a))))
def Ir (N:Nat) (b:AQ) (a:Db):Option Db:=
 cond a.Stuck (
 some a) (
 Option.bind (CR N a.Target a.Pos) λc=>
 Option.bind (CR N 0 b.Speed) λd=>
 Option.bind (Ew N c d b.Speed) λg=>
 Option.bind (Dg N a.Pos g) λi=>
 some ({ a with Pos:=i}:Db))
def Ft (N:Nat) (c1_:AQ) (c2_:AT) (a:Int):Option Int:=
 Option.bind (Ir N c1_ (⟨a,c2_.Target,false,false⟩:Db)) λb=>
 some b.Pos
def HJ (N:Nat) (b:AQ) (a:AT) (c:Bool):Option AT:=
 cond c (
 Option.bind (Ft N b a a.Pos.Lo) λd=>
 Option.bind (Ft N b a a.Pos.Hi) λg=>
 some ({ a with Pos:=(⟨d,g⟩:AD)}:AT)) (
 Option.bind (CR N a.Pos.Lo b.Speed) λi=>
 Option.bind (Ew N i 0 b.Positions) λj=>
 Option.bind (Dg N a.Pos.Hi b.Speed) λk=>
 Option.bind (Ew N k 0 b.Positions) λl=>
 some ({ a with Pos:=(⟨j,l⟩:AD)}:AT))
def D0 (N:Nat) (a:Int) (c:Int→(List AT)→Option (List AT)) (b:List AT):Option (List AT):=
 c (Aw (a+1)) b
def BK (N:Nat) (p0_w:Ac) (d:BJ) (i:(List AT)→Option (List AT)):Nat→Int→(List AT)→Option (List AT)
 |0,_,_=>none
 |o+1,g,c=>
 cond (decide (g<(↑d.Cmds.length:Int))) (
 Option.bind (ix d.Cmds g) λa=>
 Option.bind (Ep N a.Link (↑p0_w.b.Links.length:Int)) λj=>
 cond j (
 Option.bind (ix c a.Link) λp=>
 Option.bind (ix p0_w.b.Links a.Link) λk=>
 Option.bind (ix c a.Link) λl=>
 Option.bind (IS N k (⟨0,l.Target,false,false⟩:Db) a.Target) λm=>
 Option.bind (ix c a.Link) λn=>
 D0 N g (BK N p0_w d i o) (upd c a.Link ({ n with Target:=m.Target}))) (
 D0 N g (BK N p0_w d i o) c)) (
 i c)
def Cf (N:Nat) (p0_w:Ac) (c:(List Bool)):Nat→Int→(List AT)→Option (List AT)
 |0,_,_=>none
 |p+1,a,d=>
 cond (decide (a<(↑p0_w.b.Links.length:Int))) (
 Option.bind (ix p0_w.b.Links a) λg=>
 Option.bind (ix d a) λm=>
 Option.bind (ix d a) λi=>
 Option.bind (cond (decide (a<(↑c.length:Int))) (Option.bind (ix c a) λj=>
 some j) (some false)) λk=>
 Option.bind (HJ N g i k) λl=>
 Option.bind (ix d a) λn=>
 Option.bind (ix d a) λo=>
 Cf N p0_w c p (Aw (a+1)) (upd d a l)) (
 some d)
def BY (N:Nat) (p0_w:Ac) (a:(List Bool)) (b:List AT):Option (List AT):=
 Cf N p0_w a N 0 b
def BZ (N:Nat) (p0_w:Ac) (b:BJ) (a:(List Bool)) (c:List AT):Option (List AT):=
 BK N p0_w b (BY N p0_w a) N 0 c
def Cg (N:Nat) (a:Int) (b:Int→(List AT)→Option (List AT)) (c:List AT):Option (List AT):=
 b (Aw (a+1)) c
def A5 (N:Nat) (p0_w:Ac) (a:BJ) (i:(List AT)→Option (List AT)):Nat→Int→(List AT)→Option (List AT)
 |0,_,_=>none
 |j+1,g,d=>
 cond (decide (g<(↑a.Faults.length:Int))) (
 Option.bind (ix a.Faults g) λc=>
 Option.bind (Ep N c.Link (↑p0_w.b.Links.length:Int)) λk=>
 Option.bind (cond (!k) (some true) (Option.bind (ix p0_w.b.Links c.Link) λl=>
 some (decide (l.Kind≠5)))) λm=>
 cond m (
 Cg N g (A5 N p0_w a i j) d) (
 cond (decide (c.Kind=2)) (
 Option.bind (Dk N 1) λn=>
 Option.bind (ix d c.Link) λs=>
 Option.bind (ix d c.Link) λo=>
 Cg N g (A5 N p0_w a i j) (upd d c.Link ({ o with Open:=n}))) (
 cond (decide (c.Kind=3)) (
 Option.bind (Dk N 0) λp=>
 Option.bind (ix d c.Link) λt=>
 Option.bind (ix d c.Link) λq=>
 Cg N g (A5 N p0_w a i j) (upd d c.Link ({ q with Open:=p}))) (
 Cg N g (A5 N p0_w a i j) d)))) (
 i d)
def FR (N:Nat) (p0_w:Ac) (a:BJ) (b:(List Bool)):Option (List AT):=
 A5 N p0_w a (BZ N p0_w a b) N 0 p0_w.h.Links
def F5 (N:Nat) (a:AD) (b:AD):Option AD:=
 Option.bind (Dg N a.Lo b.Lo) λc=>
 Option.bind (Dg N a.Hi b.Hi) λd=>
 some (⟨c,d⟩:AD)
def Fs (N:Nat) (a:AD):Option AD:=
 some (⟨(min a.Lo 1125899906842624),(min a.Hi 1125899906842624)⟩:AD)
def HF (N:Nat) (a:AQ) (b:AD):Option (AD×AQ):=
 some (b,a)
def Fp {σ:Type}(N:Nat) (c1_:AD) (c2_:AQ) (yld:Int→σ→Option (Bool×σ)) (s:σ):Option (Bool×σ):=
 Option.bind (C9 N c1_) λi=>
 cond (!i) (
 some (true,s)) (
 Option.bind (yld c1_.Lo s) λb=>
 cond b.1 (
 Option.bind (yld c1_.Hi b.2) λa=>
 cond a.1 (
 Option.bind (cond (decide (c2_.Break<9223372036854775807)) (Option.bind (GX N c1_ (Aw (c2_.Break+1))) λd=>
 some d) (some false)) λg=>
 cond g (
 Option.bind (yld (Aw (c2_.Break+1)) a.2) λc=>
 cond c.1 (
 some (true,c.2)) (
 some (false,c.2))) (
 some (true,a.2))) (
 some (false,a.2))) (
 some (false,b.2)))
def Ey (N:Nat) (a:Db) (b:Bool):Option Db:=
 some ({ a with Open:=b}:Db)
def Gr (N:Nat) (b:AQ) (a:Db) (c:Int):Option Db:=
 cond (decide (b.Kind≠3)) (
 some a) (
 cond (decide (b.Prime≤c)) (
 Ey N a true) (
 cond (decide (c≤b.Break)) (
 Ey N a false) (
 Ey N a a.Open)))
def Ct (N:Nat) (a:Int) (g:Int→Int→Int→Bool→Option (Bool×(Int×Int×Bool))) (b:Int) (c:Int) (d:Bool):Option (Bool×(Int×Int×Bool)):=
 g (Aw (a+1)) b c d
def FG (N:Nat) (g:Int) (i:Int) (a:Bool) (j:Int→Int→Bool→Option (Bool×(Int×Int×Bool))) (b:Int):Option (Bool×(Int×Int×Bool)):=
 cond a (
 Option.bind (Dk N b) λk=>
 Option.bind (GW N (⟨g,i⟩:AD) k) λc=>
 j c.Lo c.Hi a) (
 Option.bind (Dk N b) λd=>
 j d.Lo d.Hi true)
def Bz (N:Nat) (b:AQ) (c:AT) (j:Int):Nat→Int→Int→Int→Bool→Option (Bool×(Int×Int×Bool))
 |0,_,_,_,_=>none
 |m+1,a,d,g,i=>
 cond (decide (a<2)) (
 Option.bind (GX N c.Open a) λk=>
 cond (!k) (
 Ct N a (Bz N b c j m) d g i) (
 Option.bind (Gr N b (⟨0,0,false,(decide (a=1))⟩:Db) j) λl=>
 cond l.Open (
 FG N d g i (Ct N a (Bz N b c j m)) 1) (
 FG N d g i (Ct N a (Bz N b c j m)) 0))) (
 some (true,(d,g,i)))
def Ei (N:Nat) (a:AQ) (b:AT) (c:Int) (d:Int) (g:Int) (i:Bool):Option (Bool×(Int×Int×Bool)):=
 Bz N a b c N 0 d g i
def GB (N:Nat) (a:AT) (b:Int) (c:Int):Option AT:=
 some ({ a with Open:=(⟨b,c⟩:AD)}:AT)
def HG (N:Nat) (b:AQ) (a:AT) (d:AD):Option AT:=
 cond (decide (b.Kind≠3)) (
 some a) (
 Option.bind (HF N b d) λg=>
 Option.bind (Fp N g.1 g.2 (λxx ss=>Ei N b a xx ss.1 ss.2.1 ss.2.2) (0,0,false)) λc=>
 cond c.1 (
 cond c.2.2.2 (
 GB N a c.2.1 c.2.2.1) (
 GB N a a.Open.Lo a.Open.Hi)) (
 none))
def D3 (N:Nat) (a:Int) (d:(List Az)→Int→(List AD)→Option ((List Az)×(List AT)×(List AD))) (b:List Az) (c:List AD):Option ((List Az)×(List AT)×(List AD)):=
 d b (Aw (a+1)) c
def BM (N:Nat) (p0_w:Ac) (g:(List Az)→(List AD)→Option ((List Az)×(List AT)×(List AD))):Nat→(List Az)→Int→(List AD)→Option ((List Az)×(List AT)×(List AD))
 |0,_,_,_=>none
 |k+1,c,d,b=>
 cond (decide (d<(↑p0_w.h.Queue.length:Int))) (
 Option.bind (ix p0_w.h.Queue d) λa=>
 cond (decide (a.At≤p0_w.h.Hour)) (
 Option.bind (ix b a.To) λl=>
 Option.bind (ix b a.To) λi=>
 Option.bind (F5 N i a.Vol) λj=>
 Option.bind (ix b a.To) λm=>
 Option.bind (ix b a.To) λn=>
 D3 N d (BM N p0_w g k) c (upd b a.To j)) (
 chk (room (c.length+1) 32) <|
 D3 N d (BM N p0_w g k) (c++([a]:List Az)) b)) (
 g c b)
def Bk (N:Nat) (c:List AD) (d:(List AD)→Option ((List Az)×(List AT)×(List AD))):Nat→Int→(List AD)→Option ((List Az)×(List AT)×(List AD))
 |0,_,_=>none
 |m+1,a,b=>
 cond (decide (a<(↑c.length:Int))) (
 Option.bind (ix b a) λj=>
 Option.bind (ix b a) λg=>
 Option.bind (Fs N g) λi=>
 Option.bind (ix b a) λk=>
 Option.bind (ix b a) λl=>
 Bk N c d m (Aw (a+1)) (upd b a i)) (
 d b)
def D2 (N:Nat) (a:Int) (c:Int→(List AT)→Option ((List Az)×(List AT)×(List AD))) (b:List AT):Option ((List Az)×(List AT)×(List AD)):=
 c (Aw (a+1)) b
def Ba (N:Nat) (p0_w:Ac) (i:List Az) (d:List AD):Nat→Int→(List AT)→Option ((List Az)×(List AT)×(List AD))
 |0,_,_=>none
 |m+1,a,c=>
 cond (decide (a<(↑p0_w.b.Links.length:Int))) (
 Option.bind (ix p0_w.b.Links a) λg=>
 cond (decide (g.Kind=3)) (
 Option.bind (ix c a) λn=>
 Option.bind (ix c a) λj=>
 Option.bind (ix d g.From) λo=>
 Option.bind (ix d g.From) λk=>
 Option.bind (HG N g j k) λl=>
 Option.bind (ix c a) λp=>
 Option.bind (ix c a) λq=>
 D2 N a (Ba N p0_w i d m) (upd c a l)) (
 D2 N a (Ba N p0_w i d m) c)) (
 some (i,c,d))
def Bl (N:Nat) (p0_w:Ac) (a:List Az) (b:List AD):Option ((List Az)×(List AT)×(List AD)):=
 Ba N p0_w a b N 0 p0_w.h.Links
def Bb (N:Nat) (p0_w:Ac) (b:List Az) (a:List AD):Option ((List Az)×(List AT)×(List AD)):=
 Bk N a (Bl N p0_w b) N 0 a
def Am (N:Nat) (p0_w:Ac) (a:List AD):Option ((List Az)×(List AT)×(List AD)):=
 BM N p0_w (Bb N p0_w) N ([]) 0 a
def DB (N:Nat) (a:Int) (b:List AD) (c:Int→(List AD)→Option ((List Az)×(List AT)×(List AD))) (d:Int) (g:Int):Option ((List Az)×(List AT)×(List AD)):=
 Option.bind (ix b a) λi=>
 Option.bind (ix b a) λj=>
 c (Aw (a+1)) (upd b a (⟨d,g⟩:AD))
def Ah (N:Nat) (p0_w:Ac) (a:(List AD)) (c:(List AD)→Option ((List Az)×(List AT)×(List AD))):Nat→Int→(List AD)→Option ((List Az)×(List AT)×(List AD))
 |0,_,_=>none
 |p+1,b,i=>
 cond (decide (b<(↑p0_w.h.Vol.length:Int))) (
 Option.bind (ix p0_w.h.Vol b) λq=>
 Option.bind (ix p0_w.h.Vol b) λd=>
 Option.bind (cond (decide (b<(↑a.length:Int))) (Option.bind (ix a b) λj=>
 Option.bind (C9 N j) λk=>
 some k) (some false)) λl=>
 Option.bind (cond l (Option.bind (ix a b) λm=>
 some (decide (0≤m.Lo))) (some false)) λn=>
 cond n (
 Option.bind (ix a b) λo=>
 Option.bind (F5 N d o) λg=>
 DB N b i (Ah N p0_w a c p) g.Lo g.Hi) (
 DB N b i (Ah N p0_w a c p) d.Lo d.Hi)) (
 c i)
def Ea (N:Nat) (p0_w:Ac) (a:(List AD)):Option ((List Az)×(List AT)×(List AD)):=
 Ah N p0_w a (Am N p0_w) N 0 p0_w.peaks
def Ca (N:Nat) (c1_:Gl) (p0_:Int):Option AD:=
 some (⟨0,c1_.Litres⟩:AD)
def FU (N:Nat) (c:Int) (a:Int) (b:Int):Option Int:=
 Option.bind (EB N c a b) λd=>
 cond (!d.2.2) (
 some 0) (
 some d.1)
def Hs (N:Nat) (b:AQ) (a:Int) (c:Int):Option Int:=
 cond (decide (b.To=(-1))) (
 some a) (
 Option.bind (FU N c b.BackNum b.BackDen) λd=>
 Option.bind (CR N a d) λg=>
 some (max 0 g))
def IT (N:Nat) (a:(List AU)) (b:Int):Option Int:=
 Option.bind (Cy N a) λc=>
 cond (!c) (
 some 0) (
 Option.bind (Cv N a b) λd=>
 some d.1)
def Eb (N:Nat):Option Int:=
 some 0
def EI (N:Nat) (a:AQ) (b:Int):Option Int:=
 Option.bind (CR N b a.Crest) λd=>
 Option.bind (FU N (max 0 d) a.Num a.Den) λc=>
 some c
def Gb (N:Nat) (a:Bool) (b:Option Int):Option Int:=
 cond (!a) (
 some 0) (
 b)
def Ga (N:Nat) (c:AQ) (a:Bool) (b:Int) (d:Option Int):Option Int:=
 cond a (
 Option.bind (FU N b c.Num c.Den) λg=>
 some g) (
 d)
def GZ (N:Nat) (b:AQ) (a:Int):Option Int:=
 Option.bind (FU N b.Num a b.Positions) λc=>
 some c
def HI (N:Nat) (a:AQ) (c:Int) (g:(List AU)) (b:Int) (d:Int):Option Int:=
 Option.bind (Hs N a b d) λi=>
 Option.bind (IT N g i) λj=>
 Option.bind (FU N j c a.Positions) λk=>
 Option.bind (Dg N k a.Leak) λl=>
 some l
def F2 (N:Nat) (a:AQ) (d:Int) (c:Bool) (i:(List AU)) (b:Int) (g:Int):Option Int:=
 cond (decide (a.Kind=0)) (
 HI N a d i b g) (
 cond (decide (a.Kind=2)) (
 GZ N a d) (
 cond (decide (a.Kind=3)) (
 Ga N a c b (Eb N)) (
 cond (decide (a.Kind=5)) (
 Gb N c (EI N a b)) (
 cond (decide (a.Kind=1)) (
 EI N a b) (
 Eb N)))))
def DO (N:Nat) (b:AQ) (c:AT) (a:AD) (d:AD):Option AD:=
 Option.bind (F2 N b c.Pos.Lo (decide (1≤c.Open.Lo)) b.Band.Lo a.Lo d.Hi) λg=>
 Option.bind (F2 N b c.Pos.Hi (decide (1≤c.Open.Hi)) b.Band.Hi a.Hi d.Lo) λi=>
 some (⟨g,i⟩:AD)
def CZ (N:Nat) (c1_:AQ) (c2_:AT) (c3_:AD) (a:Int):Option AD:=
 Option.bind (Dk N a) λb=>
 Option.bind (DO N c1_ c2_ b c3_) λc=>
 some c
def HA (N:Nat) (c:Int) (a:Int) (b:Int):Option Int:=
 Option.bind (EB N c a b) λd=>
 cond (!d.2.2) (
 some 0) (
 some d.1)
def HZ (N:Nat) (a:AQ) (b:Int) (c:Int):Option Int:=
 cond (decide (a.Kind≠4)) (
 some 0) (
 Option.bind (HA N b a.Num a.Den) λd=>
 Option.bind (HA N c a.BackNum a.BackDen) λg=>
 some (Aw (d-g)))
def GJ (N:Nat) (c:AQ) (a:AD) (b:AD):Option AD:=
 Option.bind (HZ N c a.Lo b.Hi) λd=>
 Option.bind (HZ N c a.Hi b.Lo) λg=>
 some (⟨d,g⟩:AD)
def FH (N:Nat) (a:AD):Option AD:=
 some (⟨(max 0 a.Lo),(max 0 a.Hi)⟩:AD)
def CY (N:Nat) (c1_:AQ) (c2_:AD) (a:Int):Option AD:=
 Option.bind (Dk N a) λd=>
 Option.bind (GJ N c1_ d c2_) λb=>
 Option.bind (FH N b) λc=>
 some c
def JQ (N:Nat) (a:AD) (b:AD):Option AD:=
 Option.bind (CR N a.Lo b.Hi) λc=>
 Option.bind (CR N a.Hi b.Lo) λd=>
 some (⟨c,d⟩:AD)
def CX (N:Nat) (c1_:AQ) (c2_:AD) (a:Int):Option AD:=
 Option.bind (Dk N 0) λi=>
 Option.bind (Dk N a) λb=>
 Option.bind (GJ N c1_ c2_ b) λc=>
 Option.bind (JQ N i c) λd=>
 Option.bind (FH N d) λg=>
 some g
def Fq (N:Nat) (a:C7) (b:Int×Int×Bool) (c:Int):Option (Int×Int):=
 cond (decide ((Aw (b.2.1+c))<a.Den)) (
 some (b.1,(Aw (b.2.1+c)))) (
 some ((Aw (b.1+1)),(Aw ((Aw (b.2.1+c))-a.Den))))
def GK (N:Nat) (a:C7) (d:Int) (b:Int):Option (Int×Int):=
 Option.bind (EB N d a.Num a.Den) λc=>
 cond (!c.2.2) (
 some (0,0)) (
 cond ((decide (0≤b))&&(decide (b<a.Den))) (
 Fq N a c b) (
 Fq N a c 0))
def CF (N:Nat) (c1_:C7) (a:Int):Option AD:=
 Option.bind (GK N c1_ a 0) λc=>
 Option.bind (GK N c1_ a (Aw (c1_.Den-1))) λb=>
 some (⟨c.1,b.1⟩:AD)
def EZ (N:Nat) (b:List AO) (a:AQ) (c:AT) (i:(List AO)→Option (List AO)) (d:Int) (g:Int):Option (List AO):=
 chk (room (b.length+1) 32) <|
 i (b++([(⟨a.To,a.Delay,2,(λx=>CZ N a c (⟨d,g⟩:AD) x)⟩:AO)]:List AO))
def Bu (N:Nat) (a:Int) (c:(List AO)→Int→Option (List AO)) (b:List AO):Option (List AO):=
 c b (Aw (a+1))
def Aq (N:Nat) (p0_w:Ac) (d:Int) (i:(List AO)→Option (List AO)):Nat→(List AO)→Int→Option (List AO)
 |0,_,_=>none
 |l+1,g,c=>
 cond (decide (c<(↑p0_w.b.Links.length:Int))) (
 Option.bind (ix p0_w.b.Links c) λa=>
 cond ((decide (a.From=d))&&(decide (a.Kind≠4))) (
 Option.bind (ix p0_w.h.Links c) λo=>
 Option.bind (ix p0_w.h.Links c) λj=>
 cond (decide (a.To≠(-1))) (
 Option.bind (ix p0_w.peaks a.To) λp=>
 Option.bind (ix p0_w.peaks a.To) λk=>
 EZ N g a j (Bu N c (Aq N p0_w d i l)) k.Lo k.Hi) (
 EZ N g a j (Bu N c (Aq N p0_w d i l)) 0 0)) (
 cond (decide (a.From=d)) (
 Option.bind (ix p0_w.peaks a.To) λq=>
 Option.bind (ix p0_w.peaks a.To) λm=>
 chk (room (g.length+1) 32) <|
 Bu N c (Aq N p0_w d i l) (g++([(⟨a.To,a.Delay,2,(λx=>CY N a m x)⟩:AO)]:List AO))) (
 cond ((decide (a.To=d))&&(decide (a.Kind=4))) (
 Option.bind (ix p0_w.peaks a.From) λs=>
 Option.bind (ix p0_w.peaks a.From) λn=>
 chk (room (g.length+1) 32) <|
 Bu N c (Aq N p0_w d i l) (g++([(⟨a.From,a.Delay,2,(λx=>CX N a n x)⟩:AO)]:List AO))) (
 Bu N c (Aq N p0_w d i l) g)))) (
 i g)
def EY (N:Nat) (a:List AO):Option (List AO):=
 some a
def BL (N:Nat) (p0_w:Ac) (d:Int) (c:List AO):Option (List AO):=
 Option.bind (ix p0_w.b.Places d) λa=>
 cond (decide (a.Den≠0)) (
 chk (room (c.length+1) 32) <|
 EY N (c++([(⟨a.Down,a.Delay,2,(λx=>CF N a x)⟩:AO)]:List AO))) (
 EY N c)
def BE (N:Nat) (p0_w:Ac) (a:Int) (b:List AO):Option (List AO):=
 Aq N p0_w a (BL N p0_w a) N b 0
def D1 (N:Nat) (a:Int) (b:(List AO)→Int→Option (List AO)) (c:List AO):Option (List AO):=
 b c (Aw (a+1))
def Ax (N:Nat) (p0_w:Ac) (c:Int) (a:(List Gl)) (i:(List AO)→Option (List AO)):Nat→(List AO)→Int→Option (List AO)
 |0,_,_=>none
 |k+1,j,g=>
 cond (decide (g<(↑a.length:Int))) (
 Option.bind (ix a g) λd=>
 Option.bind (cond (decide (d.Place≠c)) (some true) (Option.bind (Ep N d.Owner (↑p0_w.b.Owners.length:Int)) λl=>
 some (!l))) λm=>
 cond (m||(decide (d.Litres≤0))) (
 D1 N g (Ax N p0_w c a i k) j) (
 Option.bind (cond (decide (d.To≠(-1))) (Option.bind (Ep N d.To (↑p0_w.b.Places.length:Int)) λn=>
 Option.bind (cond (!n) (some true) (Option.bind (ix p0_w.b.Places d.To) λo=>
 Option.bind (ix p0_w.b.Places c) λp=>
 some (decide (o.Office≠p.Office)))) λq=>
 some q) (some false)) λs=>
 cond s (
 D1 N g (Ax N p0_w c a i k) j) (
 chk (room (j.length+1) 32) <|
 D1 N g (Ax N p0_w c a i k) (j++([(⟨d.To,0,0,(λx=>Ca N d x)⟩:AO)]:List AO))))) (
 i j)
def FT (N:Nat) (p0_w:Ac) (b:Int) (a:(List Gl)):Option (List AO):=
 Ax N p0_w b a (BE N p0_w b) N ([]) 0
def EL (N:Nat) (c0_:AD) (c1_:Int) (c2_:Int):Option AD:=
 Option.bind (CR N c0_.Lo c1_) λa=>
 Option.bind (CR N c0_.Hi c2_) λb=>
 some (⟨(max 0 a),(max 0 (min c0_.Hi b))⟩:AD)
def AS (N:Nat) (c:(List Az)) (a:Az) (b:((Az×Az)→Option Int)) (d:Int):Option (Int×Bool):=
 Option.bind (cond (decide (d<(↑c.length:Int))) (Option.bind (ix c d) λg=>
 Option.bind (b (g,a)) λi=>
 some (decide (i=0))) (some false)) λj=>
 some (d,j)
def AN (N:Nat) (d:(List Az)) (a:Az) (b:((Az×Az)→Option Int)) (i:Int→Option (Int×Bool)):Nat→Int→Int→Option (Int×Bool)
 |0,_,_=>none
 |l+1,c,g=>
 cond (decide (c<g)) (
 Option.bind (ix d (Aw (Ce .u64 (IntKind.wrap .u64 (Aw (c+g))) 1))) λj=>
 Option.bind (b (j,a)) λk=>
 cond (decide (k<0)) (
 AN N d a b i l (Aw ((Aw (Ce .u64 (IntKind.wrap .u64 (Aw (c+g))) 1))+1)) g) (
 AN N d a b i l c (Aw (Ce .u64 (IntKind.wrap .u64 (Aw (c+g))) 1)))) (
 i c)
def AW (N:Nat) (c:(List Az)) (a:Az) (b:((Az×Az)→Option Int)):Option (Int×Bool):=
 AN N c a b (AS N c a b) N 0 (↑c.length:Int)
def IR (N:Nat) (a:(List Az)) (c:Int) (d:Int) (g:AD):Option (List Az):=
 cond (decide (g.Hi≤0)) (
 some a) (
 Option.bind (AW N a (⟨c,d,(⟨0,0⟩:AD)⟩:Az) (λx=>DX N x.1 x.2)) λb=>
 cond b.2 (
 Option.bind (ix a b.1) λo=>
 Option.bind (ix a b.1) λi=>
 Option.bind (F5 N i.Vol g) λj=>
 Option.bind (Fs N j) λk=>
 Option.bind (ix a b.1) λp=>
 Option.bind (ix a b.1) λl=>
 some (upd a b.1 ({ l with Vol:=k}))) (
 Option.bind (Fs N g) λm=>
 Option.bind (Gw N a b.1 ([(⟨c,d,m⟩:Az)]:List Az)) λn=>
 some n))
def E0 (N:Nat) (p0_w:Ac) (b:Int) (a:Int) (c:AD):Option (List Az):=
 cond (decide (b≠(-1))) (
 Option.bind (IR N p0_w.h.Queue (Aw ((Aw (p0_w.h.Hour+1))+a)) b c) λd=>
 some d) (
 some p0_w.h.Queue)
def CO (N:Nat) (p0_w:Ac) (b:Int) (g:C7) (m:AD) (i:Int) (j:Int) (k:List Az):Option (AD×(List AD)×(List Az)):=
 Option.bind (EL N m j i) λa=>
 Option.bind (CR N a.Lo g.Cap) λc=>
 Option.bind (CR N a.Hi g.Cap) λd=>
 Option.bind (E0 N ({ p0_w with h:=({ p0_w.h with Queue:=k}:BT)}:Ac) g.Down g.Delay (⟨(max 0 c),(max 0 d)⟩:AD)) λl=>
 Option.bind (ix p0_w.h.Vol b) λn=>
 Option.bind (ix p0_w.h.Vol b) λo=>
 some ((⟨(max 0 c),(max 0 d)⟩:AD),(upd p0_w.h.Vol b (⟨(min a.Lo g.Cap),(min a.Hi g.Cap)⟩:AD)),l)
def CN (N:Nat) (p0_w:Ac) (a:(List AO)) (i:AD) (n:Int→Int→(List Az)→Option (AD×(List AD)×(List Az))):Nat→Int→Int→Int→(List Az)→Option (AD×(List AD)×(List Az))
 |0,_,_,_,_=>none
 |u+1,c,d,g,j=>
 cond (decide (c<(↑a.length:Int))) (
 Option.bind (ix a c) λb=>
 Option.bind (b.asks i.Lo) λk=>
 Option.bind (b.asks i.Hi) λl=>
 Option.bind (EL N i g d) λm=>
 Option.bind (E0 N ({ p0_w with h:=({ p0_w.h with Queue:=j}:BT)}:Ac) b.to_ b.delay (⟨(min k.Lo m.Lo),(min l.Hi m.Hi)⟩:AD)) λo=>
 Option.bind (Dg N k.Hi b.slack) λp=>
 Option.bind (Dg N g p) λq=>
 Option.bind (CR N l.Lo b.slack) λs=>
 Option.bind (Dg N d s) λt=>
 CN N p0_w a i n u (Aw (c+1)) t q o) (
 n d g j)
def qZ (N:Nat) (p0_w:Ac) (a:Int) (c:(List AO)):Option (AD×(List AD)×(List Az)):=
 Option.bind (ix p0_w.b.Places a) λg=>
 Option.bind (ix p0_w.peaks a) λi=>
 Option.bind (ix p0_w.peaks a) λd=>
 CN N p0_w c d (CO N p0_w a g d) N 0 0 0 p0_w.h.Queue
def EH (N:Nat) (b:BT) (a:(List Az)×(List AT)×(List AD)) (c:List AD) (d:List AD) (g:List Az):Option (BT×(List AD)×(List AD)):=
 some ((⟨(Aw (b.Hour+1)),d,g,a.2.1⟩:BT),a.2.2,c)
def EG (N:Nat) (c:AJ) (g:BT) (i:BJ) (b:(List Az)×(List AT)×(List AD)) (m:(List AD)→(List AD)→(List Az)→Option (BT×(List AD)×(List AD))):Nat→Int→(List AD)→(List AD)→(List Az)→Option (BT×(List AD)×(List AD))
 |0,_,_,_,_=>none
 |q+1,a,d,j,k=>
 cond (decide (a<(↑c.Places.length:Int))) (
 Option.bind (FT N (⟨c,(⟨g.Hour,j,k,b.2.1⟩:BT),b.2.2⟩:Ac) a i.Takes) λn=>
 Option.bind (qZ N (⟨c,(⟨g.Hour,j,k,b.2.1⟩:BT),b.2.2⟩:Ac) a n) λl=>
 Option.bind (ix d a) λo=>
 Option.bind (ix d a) λp=>
 EG N c g i b m q (Aw (a+1)) (upd d a l.1) l.2.1 l.2.2) (
 m d j k)
def GY (N:Nat) (a:AJ) (b:BT) (c:BJ) (d:(List Bool)) (g:(List AD)):Option (BT×(List AD)×(List AD)):=
 Option.bind (Bg N b.Vol) λj=>
 Option.bind (Bd N b.Links) λl=>
 chk (I6 (↑a.Places.length:Int) (↑a.Places.length:Int) 16) <|
 Option.bind (FR N (⟨a,(⟨b.Hour,j,b.Queue,l⟩:BT),(List.replicate ((↑a.Places.length:Int):Int).toNat ((⟨0,0⟩:AD):AD))⟩:Ac) c d) λk=>
 Option.bind (Ea N (⟨a,(⟨b.Hour,j,b.Queue,k⟩:BT),(List.replicate ((↑a.Places.length:Int):Int).toNat ((⟨0,0⟩:AD):AD))⟩:Ac) g) λi=>
 chk (I6 (↑a.Places.length:Int) (↑a.Places.length:Int) 16) <|
 EG N a b c i (EH N b i) N 0 (List.replicate ((↑a.Places.length:Int):Int).toNat (⟨0,0⟩:AD)) j i.1
def EV {σ:Type}(N:Nat) (yld:(Int×(List AD))→σ→Option (Bool×σ)) (c4_:AJ) (c5_:(List Bool)) (c6_:Be) (c:Int) (d:Int) (i:List AD) (j:List Az) (k:List AT) (l:σ) (m:Int→Int→(List AD)→(List Az)→(List AT)→σ→Option (Bool×σ)) (n:List Int) (o:List He) (p:List L9) (q:List Gl) (s:List Ib):Option (Bool×σ):=
 Option.bind (Ha N c6_ d (↑c4_.Places.length:Int)) λg=>
 Option.bind (GY N c4_ (⟨d,i,j,k⟩:BT) (⟨n,o,p,q,s⟩:BJ) c5_ g) λa=>
 Option.bind (yld (c,a.2.1) l) λb=>
 cond b.1 (
 m (Aw (c+1)) a.1.Hour a.1.Vol a.1.Queue a.1.Links b.2) (
 some (false,b.2))
def B3 {σ:Type}(N:Nat) (yld:(Int×(List AD))→σ→Option (Bool×σ)) (c2_:Int) (c3_:(List BJ)) (c4_:AJ) (c5_:(List Bool)) (c6_:Be):Nat→Int→Int→(List AD)→(List Az)→(List AT)→σ→Option (Bool×σ)
 |0,_,_,_,_,_,_=>none
 |k+1,a,d,g,i,j,c=>
 cond (decide (a<c2_)) (
 cond (decide (a<(↑c3_.length:Int))) (
 Option.bind (ix c3_ a) λb=>
 EV N yld c4_ c5_ c6_ a d g i j c (B3 N yld c2_ c3_ c4_ c5_ c6_ k) b.Rain b.Faults b.Cmds b.Takes b.Swaps) (
 EV N yld c4_ c5_ c6_ a d g i j c (B3 N yld c2_ c3_ c4_ c5_ c6_ k) ([]) ([]) ([]) ([]) ([]))) (
 some (true,c))
def Gx {σ:Type}(N:Nat) (c1_:BT) (c2_:Int) (c3_:(List BJ)) (c4_:AJ) (c5_:(List Bool)) (c6_:Be) (yld:(Int×(List AD))→σ→Option (Bool×σ)) (s:σ):Option (Bool×σ):=
 B3 N yld c2_ c3_ c4_ c5_ c6_ N 0 c1_.Hour c1_.Vol c1_.Queue c1_.Links s
def D7 (N:Nat) (a:EM) (b:Int) (c:List AD) (d:Int) (g:Int):Option (Bool×(Int×Int)):=
 Option.bind (cond ((decide (0≤a.Place))&&(decide (a.Place<(↑c.length:Int)))) (Option.bind (ix c a.Place) λi=>
 some (decide (a.Flood<i.Hi))) (some false)) λj=>
 cond j (
 some (false,(b,b))) (
 some (true,(d,g)))
def Fv (N:Nat) (a:Int) (d:Int→Int→Int→Option B4) (b:Int) (c:Int):Option B4:=
 d (Aw (a+1)) b c
def CJ (N:Nat) (i:AJ) (j:BT) (c:(List BJ)) (a:(List Bool)) (n:EM) (k:List Be) (o:Int→Option B4):Nat→Int→Int→Int→Option B4
 |0,_,_,_=>none
 |q+1,g,l,m=>
 cond (decide (g<(↑k.length:Int))) (
 Option.bind (ix k g) λp=>
 Option.bind (Hk N i j p c a l) λb=>
 Option.bind (Gx N b.1 b.2.1 b.2.2.1 b.2.2.2.1 b.2.2.2.2.1 b.2.2.2.2.2 (λxx ss=>D7 N n xx.1 xx.2 ss.1 ss.2) (l,m)) λd=>
 cond d.1 (
 Fv N g (CJ N i j c a n k o q) d.2.1 d.2.2) (
 Fv N g (CJ N i j c a n k o q) d.2.1 d.2.2)) (
 o m)
def Cz (N:Nat) (a:Int):Option B4:=
 some (⟨a,false⟩:B4)
def Fw (N:Nat) (d:AJ) (g:BT) (c:(List BJ)) (b:(List Bool)) (a:Int) (i:EM) (j:List Be):Option B4:=
 CJ N d g c b i j (Cz N) N 0 (min a 24) (-1)
def EC (N:Nat) (g:AJ) (a:Int) (j:BT) (b:(List Be)) (i:(List BJ)) (d:(List Bool)) (c:Int):Option B4:=
 cond ((decide (a<0))||(decide ((↑g.Towns.length:Int)≤a))) (
 some (⟨(-1),false⟩:B4)) (
 Option.bind (ix g.Towns a) λk=>
 cond (decide ((↑b.length:Int)=0)) (
 Fw N g j i d c k ([(⟨0,0,[]⟩:Be)]:List Be)) (
 Fw N g j i d c k b))
def Cb (N:Nat) (a:Int) (g:Bool) (b:B4) (c:B4) (d:Int):Option Bool:=
 some (((g&&(decide (b.Crest=d)))&&(((decide (b.Crest<0))&&((decide (c.Crest<0))||(decide (c.Crest=a))))||((decide (0≤b.Crest))&&(decide (c.Crest=b.Crest)))))&&(decide (b.Crest<(max a 1))))
def D5 (N:Nat) (c:AJ) (d:Int) (i:BT) (b:(List Be)) (g:(List BJ)) (a:Int):Option Bool:=
 Option.bind (Em N) λm=>
 Option.bind (FV N c b g) λq=>
 Option.bind (E7 N c b) λs=>
 Option.bind (cond (((((!q)||(!s))||(decide (a<0)))||(decide (8<a)))||(decide ((↑b.length:Int)<2))) (some true) (Option.bind (FZ N c) λt=>
 some (!t))) λu=>
 Option.bind (cond u (some true) (Option.bind (HH N c i) λv=>
 some (!v))) λw=>
 cond w (
 some m) (
 chk (I6 (↑c.Links.length:Int) (↑c.Links.length:Int) 1) <|
 Option.bind (EC N c d i b g (List.replicate ((↑c.Links.length:Int):Int).toNat false) a) λn=>
 Option.bind (Yg b 1) λo=>
 Option.bind (EC N c d i o g (List.replicate ((↑c.Links.length:Int):Int).toNat false) a) λj=>
 Option.bind (Yh b 1) λp=>
 Option.bind (EC N c d i p g (List.replicate ((↑c.Links.length:Int):Int).toNat false) a) λk=>
 Option.bind (EC N c d i b g (List.replicate ((↑c.Links.length:Int):Int).toNat false) (Aw (a+1))) λl=>
 cond ((decide (0≤k.Crest))&&((decide (j.Crest<0))||(decide (k.Crest<j.Crest)))) (
 Cb N a m n l k.Crest) (
 Cb N a m n l j.Crest))
end Go.Proofs.YtibidnaedddfdaaGreat
