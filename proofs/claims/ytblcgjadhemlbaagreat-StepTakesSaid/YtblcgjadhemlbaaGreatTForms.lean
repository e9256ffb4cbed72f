import Derived.Test.YtblcgjadhemlbaaGreatTReps
import Derived.Test.YtblcgjadhemlbaaGreatTSortD
namespace Go.Proofs.YtblcgjadhemlbaaGreat
open Go.RowKit
set_option linter.unusedVariables false
def IZ (N:Nat):Option AW:=
 some (⟨(ByteArray.mk #[98]),Mn,0,Mo,[],[],[],[],[],([0,0,0]:List Int),0⟩:AW)
def CE (N:Nat) (a:(List Int)):Option (List Int):=
 chk (KR (([]:List Int).length+a.length) 8) <|
 some (([]:List Int)++a)
def I7 (N:Nat) (a:AW) (b:Int) (c:List (List Int)):Option Am:=
 some (⟨b,c,(List.replicate ((↑a.Places.length:Int):Int).toNat (0:Int)),[],(List.replicate ((↑a.Links.length:Int):Int).toNat ((⟨0,0,false,false⟩:Ax):Ax)),(List.replicate ((↑a.Owners.length:Int):Int).toNat (0:Int)),(List.replicate ((↑a.Owners.length:Int):Int).toNat (0:Int))⟩:Am)
def IA (N:Nat) (c:AW) (d:(List (List Int))→Option Am):Nat→Int→(List (List Int))→Option Am
 |0,_,_=>none
 |l+1,a,b=>
 cond (decide (a<(↑c.Places.length:Int))) (
 Option.bind (ix c.Places a) λg=>
 Option.bind (CE N g.Start) λi=>
 Option.bind (ix b a) λj=>
 Option.bind (ix b a) λk=>
 IA N c d l (BM (a+1)) (upd b a i)) (
 d b)
def Lk (N:Nat) (a:AW) (b:Int):Option Am:=
 chk (JF (↑a.Places.length:Int) (↑a.Places.length:Int) 24) <|
 chk (JF (↑a.Places.length:Int) (↑a.Places.length:Int) 8) <|
 chk (JF (↑a.Links.length:Int) (↑a.Links.length:Int) 24) <|
 chk (JF (↑a.Owners.length:Int) (↑a.Owners.length:Int) 8) <|
 chk (JF (↑a.Owners.length:Int) (↑a.Owners.length:Int) 8) <|
 IA N a (I7 N a b) N 0 (List.replicate ((↑a.Places.length:Int):Int).toNat ([]:(List Int)))
def CD (N:Nat) (c:Int) (b:Int) (a:Int):Option Bool:=
 some ((decide (b≤c))&&(decide (c≤a)))
def B5 (N:Nat) (a:Int):Option Bool:=
 Option.bind (CD N a 0 1125899906842624) λb=>
 some b
def Da (N:Nat) (a:AW) (c:Option Bool):Nat→Int→Option Bool
 |0,_=>none
 |i+1,b=>
 cond (decide (b<(↑a.Room.length:Int))) (
 Option.bind (ix a.Room b) λd=>
 Option.bind (B5 N d) λg=>
 cond (!g) (
 some false) (
 Da N a c i (BM (b+1)))) (
 c)
def FI (N:Nat):Option Bool:=
 some true
def Dc (N:Nat) (a:AW):Option Bool:=
 Da N a (FI N) N 0
def Db (N:Nat) (a:AW) (d:Option Bool):Nat→Int→Option Bool
 |0,_=>none
 |g+1,c=>
 cond (decide (c<(↑a.Name.size:Int))) (
 Option.bind (Us a.Name c) λb=>
 cond ((((decide (b<32))||(decide (126<b)))||(decide (b=34)))||(decide (b=92))) (
 some false) (
 Db N a d g (BM (c+1)))) (
 d)
def HK (N:Nat) (a:AW):Option Bool:=
 Option.bind (cond (decide (500<(↑a.Name.size:Int))) (some true) (Option.bind (CD N (↑a.Owners.length:Int) 1 16) λb=>
 some (!b))) λc=>
 Option.bind (cond c (some true) (Option.bind (CD N a.Cells 0 64) λd=>
 some (!d))) λg=>
 Option.bind (cond g (some true) (Option.bind (CD N (↑a.Places.length:Int) 1 64) λi=>
 some (!i))) λj=>
 Option.bind (cond ((((((j||(decide (96<(↑a.Links.length:Int))))||(decide (40<(↑a.Towns.length:Int))))||(decide (128<(↑a.Gauges.length:Int))))||(decide (128<(↑a.Roads.length:Int))))||(decide (40<(↑a.Shelters.length:Int))))||(decide ((↑a.Room.length:Int)≠3))) (some true) (Option.bind (CD N a.Err 0 1099511627776) λk=>
 some (!k))) λl=>
 cond l (
 some false) (
 Db N a (Dc N a) N 0)
def GK (N:Nat):Option Bool:=
 some true
def Ef (N:Nat) (a:ByteArray) (d:Option Bool):Nat→Int→Option Bool
 |0,_=>none
 |g+1,c=>
 cond (decide (c<(↑a.size:Int))) (
 Option.bind (Us a c) λb=>
 cond ((((decide (b<97))||(decide (122<b)))&&((decide (b<48))||(decide (57<b))))&&(decide (b≠95))) (
 some false) (
 Ef N a d g (BM (c+1)))) (
 d)
def Ia (N:Nat) (a:ByteArray):Option Bool:=
 Option.bind (cond (((decide ((↑a.size:Int)<1))||(decide (24<(↑a.size:Int))))||(a==(ByteArray.mk #[111,117,116]))) (some true) (Option.bind (Us a 0) λb=>
 some (decide (b<97)))) λc=>
 Option.bind (cond c (some true) (Option.bind (Us a 0) λd=>
 some (decide (122<d)))) λg=>
 cond g (
 some false) (
 Ef N a (GK N) N 1)
def Gl (N:Nat) (a:(List (AS×Bool))) (b:ByteArray) (d:ByteArray):Option (Bool×(List (AS×Bool))):=
 Option.bind (Ia N b) λc=>
 cond ((!c)||((Oy (λk:AS=>Value.agg (AS.v k).toArray) a (⟨d,b⟩:AS)).getD false)) (
 some (false,a)) (
 some (true,(RT (λk:AS=>Value.agg (AS.v k).toArray) a (⟨d,b⟩:AS) true)))
def Iy (N:Nat) (a:(List (AS×Bool))) (b:ByteArray) (c:ByteArray):Option (Bool×(List (AS×Bool))):=
 cond (b==(ByteArray.mk #[115,104,101,108,116,101,114])) (
 Gl N a c (ByteArray.mk #[116,111,119,110])) (
 Gl N a c b)
def CT (N:Nat) (c2_:(List (AS×Bool))) (c3_:Bool) (a:ByteArray) (b:ByteArray):Option ((List (AS×Bool))×Bool):=
 Option.bind (Iy N c2_ a b) λc=>
 some (c.2,(c.1&&c3_))
def Cr (N:Nat) (a:AW) (d:Bool→((List (AS×Bool)))→Option Bool):Nat→Int→Bool→((List (AS×Bool)))→Option Bool
 |0,_,_,_=>none
 |k+1,c,g,i=>
 cond (decide (c<(↑a.Places.length:Int))) (
 Option.bind (ix a.Places c) λj=>
 Option.bind (CT N i g (ByteArray.mk #[112,108,97,99,101]) j.Name) λb=>
 Cr N a d k (BM (c+1)) b.2 b.1) (
 d g i)
def Cq (N:Nat) (a:AW) (i:Bool→((List (AS×Bool)))→Option Bool):Nat→Int→Bool→((List (AS×Bool)))→Option Bool
 |0,_,_,_=>none
 |k+1,b,c,d=>
 cond (decide (b<(↑a.Links.length:Int))) (
 Option.bind (ix a.Links b) λj=>
 Option.bind (CT N d c (ByteArray.mk #[108,105,110,107]) j.Name) λg=>
 Cq N a i k (BM (b+1)) g.2 g.1) (
 i c d)
def Cp (N:Nat) (a:AW) (i:Bool→((List (AS×Bool)))→Option Bool):Nat→Int→Bool→((List (AS×Bool)))→Option Bool
 |0,_,_,_=>none
 |k+1,b,c,d=>
 cond (decide (b<(↑a.Towns.length:Int))) (
 Option.bind (ix a.Towns b) λj=>
 Option.bind (CT N d c (ByteArray.mk #[116,111,119,110]) j.Name) λg=>
 Cp N a i k (BM (b+1)) g.2 g.1) (
 i c d)
def Co (N:Nat) (a:AW) (i:Bool→((List (AS×Bool)))→Option Bool):Nat→Int→Bool→((List (AS×Bool)))→Option Bool
 |0,_,_,_=>none
 |k+1,b,c,d=>
 cond (decide (b<(↑a.Shelters.length:Int))) (
 Option.bind (ix a.Shelters b) λj=>
 Option.bind (CT N d c (ByteArray.mk #[115,104,101,108,116,101,114]) j.Name) λg=>
 Co N a i k (BM (b+1)) g.2 g.1) (
 i c d)
def Cd (N:Nat) (a:AW) (c:Bool→((List (AS×Bool)))→Option Bool):Nat→Int→Bool→((List (AS×Bool)))→Option Bool
 |0,_,_,_=>none
 |k+1,b,d,g=>
 cond (decide (b<(↑a.Gauges.length:Int))) (
 Option.bind (ix a.Gauges b) λj=>
 Option.bind (CT N g d (ByteArray.mk #[103,97,117,103,101]) j.Name) λi=>
 Cd N a c k (BM (b+1)) i.2 i.1) (
 c d g)
def Cc (N:Nat) (a:AW) (c:Bool→Option Bool):Nat→Int→Bool→((List (AS×Bool)))→Option Bool
 |0,_,_,_=>none
 |k+1,b,d,i=>
 cond (decide (b<(↑a.Roads.length:Int))) (
 Option.bind (ix a.Roads b) λj=>
 Option.bind (CT N i d (ByteArray.mk #[114,111,97,100]) j.Name) λg=>
 Cc N a c k (BM (b+1)) g.2 g.1) (
 c d)
def Dh (N:Nat) (a:Bool):Option Bool:=
 some a
def Di (N:Nat) (a:AW) (b:Bool) (c:(List (AS×Bool))):Option Bool:=
 Cc N a (Dh N) N 0 b c
def Dv (N:Nat) (a:AW) (b:Bool) (c:(List (AS×Bool))):Option Bool:=
 Cd N a (Di N a) N 0 b c
def Dw (N:Nat) (a:AW) (b:Bool) (c:(List (AS×Bool))):Option Bool:=
 Co N a (Dv N a) N 0 b c
def Dx (N:Nat) (a:AW) (b:Bool) (c:(List (AS×Bool))):Option Bool:=
 Cp N a (Dw N a) N 0 b c
def Dy (N:Nat) (a:AW) (b:Bool) (c:(List (AS×Bool))):Option Bool:=
 Cq N a (Dx N a) N 0 b c
def Dz (N:Nat) (a:AW) (b:Bool) (c:(List (AS×Bool))):Option Bool:=
 Cr N a (Dy N a) N 0 b c
def Cs (N:Nat) (a:AW) (c:Bool→((List (AS×Bool)))→Option Bool):Nat→Int→Bool→((List (AS×Bool)))→Option Bool
 |0,_,_,_=>none
 |k+1,b,d,g=>
 cond (decide (b<(↑a.Owners.length:Int))) (
 Option.bind (ix a.Owners b) λj=>
 Option.bind (CT N g d (ByteArray.mk #[111,119,110,101,114]) j) λi=>
 Cs N a c k (BM (b+1)) i.2 i.1) (
 c d g)
def H0 (N:Nat) (a:AW):Option Bool:=
 Cs N a (Dz N a) N 0 true ([]:(List (AS×Bool)))
def Hk (N:Nat):Option Bool:=
 some true
def Fm (N:Nat) (a:(List BT)) (d:Option Bool):Nat→Int→Option Bool
 |0,_=>none
 |l+1,c=>
 cond (decide (c<(↑a.length:Int))) (
 Option.bind (ix a c) λb=>
 cond ((((decide (b.X<0))||(decide (1125899906842624<b.X)))||(decide (b.Y<0)))||(decide (1125899906842624<b.Y))) (
 some false) (
 Option.bind (cond (decide (0<c)) (Option.bind (ix a (BM (c-1))) λg=>
 Option.bind (cond (decide (b.X≤g.X)) (some true) (Option.bind (ix a (BM (c-1))) λi=>
 some (decide (b.Y<i.Y)))) λj=>
 some j) (some false)) λk=>
 cond k (
 some false) (
 Fm N a d l (BM (c+1))))) (
 d)
def Eo (N:Nat) (a:(List BT)):Option Bool:=
 cond ((decide ((↑a.length:Int)<1))||(decide (32<(↑a.length:Int)))) (
 some false) (
 Fm N a (Hk N) N 0)
def Fo (N:Nat) (a:Int) (b:Int):Option Bool:=
 Option.bind (B5 N a) λc=>
 Option.bind (cond c (Option.bind (B5 N b) λd=>
 some d) (some false)) λg=>
 some (g&&((decide (b≠0))||(decide (a=0))))
def EE (N:Nat) (b:Int) (a:Int):Option Bool:=
 Option.bind (CD N b 0 (BM (a-1))) λc=>
 some c
def Hl (N:Nat) (c:AW) (b:Int) (a:Int):Option Bool:=
 Option.bind (cond (decide (a=(-1))) (some true) (Option.bind (EE N a (↑c.Places.length:Int)) λd=>
 some (d&&(decide (a≠b))))) λg=>
 some g
def Br (N:Nat) (a:Int):Option Bool:=
 some (decide (a≤1125899906842624))
def Cb (N:Nat) (d:Dl) (g:Int→Option Bool):Nat→Int→Int→Option Bool
 |0,_,_=>none
 |j+1,b,a=>
 cond (decide (a<(↑d.Start.length:Int))) (
 Option.bind (ix d.Start a) λc=>
 Option.bind (B5 N c) λi=>
 cond (!i) (
 some false) (
 Cb N d g j (BM (b+c)) (BM (a+1)))) (
 g b)
def Ca (N:Nat) (c:AW) (g:Dl) (d:Int) (i:Int→Option Bool):Nat→Int→Int→Option Bool
 |0,_,_=>none
 |m+1,j,b=>
 cond (decide (b<(↑g.Rain.length:Int))) (
 Option.bind (ix g.Rain b) λa=>
 Option.bind (cond ((decide (a.Index≤j))||(decide (c.Cells≤a.Index))) (some true) (Option.bind (B5 N a.Area) λk=>
 some (!k))) λl=>
 cond l (
 some false) (
 Ca N c g d i m a.Index (BM (b+1)))) (
 i d)
def Dg (N:Nat) (a:AW) (c:Dl) (d:Int→Option Bool) (b:Int):Option Bool:=
 Ca N a c b d N (-1) 0
def CH (N:Nat) (a:Int) (b:Int→Int→Option Bool) (c:Int):Option Bool:=
 b c (BM (a+1))
def Bb (N:Nat) (b:AW) (d:Int→Option Bool):Nat→Int→Int→Option Bool
 |0,_,_=>none
 |y+1,g,c=>
 cond (decide (c<(↑b.Places.length:Int))) (
 Option.bind (ix b.Places c) λa=>
 Option.bind (CD N a.Kind 0 3) λj=>
 Option.bind (cond (!j) (some true) (Option.bind (CD N a.Office 0 2) λk=>
 some (!k))) λl=>
 Option.bind (cond l (some true) (Option.bind (CD N a.Delay 0 240) λm=>
 some (!m))) λn=>
 Option.bind (cond n (some true) (Option.bind (B5 N a.Cap) λo=>
 some (!o))) λp=>
 Option.bind (cond p (some true) (Option.bind (B5 N a.Floor) λq=>
 some (!q))) λs=>
 Option.bind (cond s (some true) (Option.bind (Eo N a.Level) λt=>
 some (!t))) λu=>
 Option.bind (cond (u||(decide ((↑a.Start.length:Int)≠(↑b.Owners.length:Int)))) (some true) (Option.bind (Fo N a.Num a.Den) λv=>
 some (!v))) λw=>
 Option.bind (cond w (some true) (Option.bind (Hl N b c a.Down) λi=>
 some (!i))) λx=>
 cond x (
 some false) (
 Cb N a (Dg N b a (CH N c (Bb N b d y))) N g 0)) (
 d g)
def HU (N:Nat) (a:AW):Option Bool:=
 Bb N a (Br N) N 0 0
def Hd (N:Nat) (a:Int):Option Int:=
 some a
def E9 (N:Nat) (b:(Int→Option Bool)) (d:Int→Option Int):Nat→Int→Int→Option Int
 |0,_,_=>none
 |i+1,a,c=>
 cond (decide (a<c)) (
 Option.bind (b (BM (Du .u64 (IntKind.wrap .u64 (BM (a+c))) 1))) λg=>
 cond (!g) (
 E9 N b d i (BM ((BM (Du .u64 (IntKind.wrap .u64 (BM (a+c))) 1))+1)) c) (
 E9 N b d i a (BM (Du .u64 (IntKind.wrap .u64 (BM (a+c))) 1)))) (
 d a)
def Jn (N:Nat) (a:Int) (b:(Int→Option Bool)):Option Int:=
 E9 N b (Hd N) N 0 a
def G5 (N:Nat) (c1_:(List BT)) (c2_:Int) (a:Int):Option Bool:=
 Option.bind (ix c1_ a) λb=>
 some (decide (c2_<b.X))
def GJ (N:Nat) (a:Int) (b:Int):Option (Int×Int):=
 some ((IntKind.wrap .u64 ((IntKind.wrap .u64 ((IntKind.wrap .u64 ((Du .u64 a 32)*(Du .u64 b 32)))+(Du .u64 (IntKind.wrap .u64 ((IntKind.wrap .u64 ((Du .u64 a 32)*(Gz .and .u64 b 4294967295)))+(Du .u64 (IntKind.wrap .u64 ((Gz .and .u64 a 4294967295)*(Gz .and .u64 b 4294967295))) 32))) 32)))+(Du .u64 (IntKind.wrap .u64 ((Gz .and .u64 (IntKind.wrap .u64 ((IntKind.wrap .u64 ((Du .u64 a 32)*(Gz .and .u64 b 4294967295)))+(Du .u64 (IntKind.wrap .u64 ((Gz .and .u64 a 4294967295)*(Gz .and .u64 b 4294967295))) 32))) 4294967295)+(IntKind.wrap .u64 ((Gz .and .u64 a 4294967295)*(Du .u64 b 32))))) 32))),(IntKind.wrap .u64 (a*b)))
def FA (N:Nat) (a:Int) (b:Int):Option Int:=
 Option.bind (Us LA (IntKind.wrap .u8 a)) λc=>
 some (BM (b+(BM c)))
def FB (N:Nat) (a:Int) (b:Int):Option Int:=
 cond (decide (256≤a)) (
 FA N (Du .u64 a 8) (BM (b+8))) (
 FA N a b)
def FC (N:Nat) (a:Int) (b:Int):Option Int:=
 cond (decide (65536≤a)) (
 FB N (Du .u64 a 16) (BM (b+16))) (
 FB N a b)
def HJ (N:Nat) (a:Int):Option Int:=
 cond (decide (4294967296≤a)) (
 FC N (Du .u64 a 32) 32) (
 FC N a 0)
def EA (N:Nat) (a:Int):Option Int:=
 Option.bind (HJ N a) λb=>
 some (BM (64-b))
def C7 (N:Nat) (b:Int) (a:Int) (d:Nat) (j:Nat) (g:Int→Option (Int×Int)):Nat→Int→Int→Option (Int×Int)
 |0,_,_=>none
 |k+1,i,c=>
 cond ((decide (4294967296≤c))||(decide ((IntKind.wrap .u64 ((IntKind.wrap .u64 (4294967296*i))+(Gz .and .u64 (C2 .u64 b j) 4294967295)))<(IntKind.wrap .u64 (c*(Gz .and .u64 (C2 .u64 a d) 4294967295)))))) (
 cond (decide (4294967296≤(IntKind.wrap .u64 (i+(Du .u64 (C2 .u64 a d) 32))))) (
 g (IntKind.wrap .u64 (c-1))) (
 C7 N b a d j g k (IntKind.wrap .u64 (i+(Du .u64 (C2 .u64 a d) 32))) (IntKind.wrap .u64 (c-1)))) (
 g c)
def EB (N:Nat) (c:Int) (a:Int) (b:Int) (n:Int) (d:Nat) (k:Nat) (l:Nat) (g:Nat) (i:Int) (j:Int):Option (Int×Int):=
 Option.bind (NO (IntKind.wrap .u64 n)) λm=>
 some ((IntKind.wrap .u64 ((IntKind.wrap .u64 (i*4294967296))+j)),(Du .u64 (IntKind.wrap .u64 ((IntKind.wrap .u64 ((IntKind.wrap .u64 ((IntKind.wrap .u64 ((IntKind.wrap .u64 ((IntKind.wrap .u64 ((Gz .or .u64 (C2 .u64 c k) (Du .u64 a l))*4294967296))+(Du .u64 (C2 .u64 a g) 32)))-(IntKind.wrap .u64 (i*(C2 .u64 b d)))))*4294967296))+(Gz .and .u64 (C2 .u64 a g) 4294967295)))-(IntKind.wrap .u64 (j*(C2 .u64 b d))))) m))
def C8 (N:Nat) (c:Int) (a:Int) (b:Int) (m:Int) (d:Nat) (i:Nat) (j:Nat) (g:Nat) (k:Int):Option (Int×Int):=
 Option.bind (Ox .u64 (IntKind.wrap .u64 ((IntKind.wrap .u64 ((IntKind.wrap .u64 ((Gz .or .u64 (C2 .u64 c i) (Du .u64 a j))*4294967296))+(Du .u64 (C2 .u64 a g) 32)))-(IntKind.wrap .u64 (k*(C2 .u64 b d))))) (Du .u64 (C2 .u64 b d) 32)) λl=>
 C7 N a b d g (EB N c a b m d i j g k) N (IntKind.wrap .u64 ((IntKind.wrap .u64 ((IntKind.wrap .u64 ((IntKind.wrap .u64 ((Gz .or .u64 (C2 .u64 c i) (Du .u64 a j))*4294967296))+(Du .u64 (C2 .u64 a g) 32)))-(IntKind.wrap .u64 (k*(C2 .u64 b d)))))-(IntKind.wrap .u64 (l*(Du .u64 (C2 .u64 b d) 32))))) l
def Ci (N:Nat) (b:Int) (a:Int) (d:Nat) (j:Nat) (g:Int→Option (Int×Int)):Nat→Int→Int→Option (Int×Int)
 |0,_,_=>none
 |k+1,c,i=>
 cond ((decide (4294967296≤c))||(decide ((IntKind.wrap .u64 ((IntKind.wrap .u64 (4294967296*i))+(Du .u64 (C2 .u64 b j) 32)))<(IntKind.wrap .u64 (c*(Gz .and .u64 (C2 .u64 a d) 4294967295)))))) (
 cond (decide (4294967296≤(IntKind.wrap .u64 (i+(Du .u64 (C2 .u64 a d) 32))))) (
 g (IntKind.wrap .u64 (c-1))) (
 Ci N b a d j g k (IntKind.wrap .u64 (c-1)) (IntKind.wrap .u64 (i+(Du .u64 (C2 .u64 a d) 32))))) (
 g c)
def Ee (N:Nat) (c:Int) (b:Int) (a:Int):Option (Int×Int):=
 cond (decide (a=0)) (
 none) (
 cond (decide (a≤c)) (
 none) (
 cond (decide (c=0)) (
 Option.bind (Ox .u64 b a) λm=>
 Option.bind (RI b a) λn=>
 some (m,n)) (
 Option.bind (EA N a) λj=>
 Option.bind (NO (IntKind.wrap .u64 j)) λd=>
 Option.bind (NO (IntKind.wrap .u64 j)) λg=>
 Option.bind (NO (IntKind.wrap .u64 (64-(IntKind.wrap .u64 j)))) λi=>
 Option.bind (NO (IntKind.wrap .u64 j)) λk=>
 Option.bind (Ox .u64 (Gz .or .u64 (C2 .u64 c g) (Du .u64 b i)) (Du .u64 (C2 .u64 a d) 32)) λl=>
 Ci N b a d k (C8 N c b a j d g i k) N l (IntKind.wrap .u64 ((Gz .or .u64 (C2 .u64 c g) (Du .u64 b i))-(IntKind.wrap .u64 (l*(Du .u64 (C2 .u64 a d) 32))))))))
def En (N:Nat) (c:Int) (b:Int) (a:Int):Option (Int×Int×Bool):=
 cond ((((((decide (c<0))||(decide (1125899906842624<c)))||(decide (b<0)))||(decide (1125899906842624<b)))||(decide (a<1)))||(decide (1125899906842624<a))) (
 some (0,0,false)) (
 Option.bind (GJ N (IntKind.wrap .u64 c) (IntKind.wrap .u64 b)) λg=>
 cond (decide ((IntKind.wrap .u64 a)≤g.1)) (
 some (0,0,false)) (
 Option.bind (Ee N g.1 g.2 (IntKind.wrap .u64 a)) λd=>
 cond (decide (1125899906842624<d.1)) (
 some (0,0,false)) (
 some ((BM d.1),(BM d.2),true))))
def HQ (N:Nat) (a:(List BT)) (d:Int):Option (Int×Bool):=
 Option.bind (Jn N (↑a.length:Int) (λx=>G5 N a d x)) λb=>
 cond (decide (b=0)) (
 Option.bind (ix a 0) λi=>
 some (i.Y,false)) (
 Option.bind (ix a (BM (b-1))) λc=>
 cond (decide (b=(↑a.length:Int))) (
 some (c.Y,false)) (
 Option.bind (ix a b) λj=>
 Option.bind (ix a b) λk=>
 Option.bind (En N (BM (d-c.X)) (BM (j.Y-c.Y)) (BM (k.X-c.X))) λg=>
 some ((BM (c.Y+g.1)),(decide (0<g.2.1)))))
def FD (N:Nat) (b:(List BT)) (a:(List BT)) (i:Option Bool):Nat→Int→Option Bool
 |0,_=>none
 |j+1,c=>
 cond (decide (c<(↑a.length:Int))) (
 Option.bind (ix a c) λd=>
 Option.bind (HQ N b d.X) λg=>
 cond ((decide (d.Y<g.1))||((decide (g.1=d.Y))&&g.2)) (
 some false) (
 FD N b a i j (BM (c+1)))) (
 i)
def Gk (N:Nat):Option Bool:=
 some true
def FG (N:Nat) (a:(List BT)) (b:(List BT)):Option Bool:=
 FD N a b (Gk N) N 0
def FE (N:Nat) (a:(List BT)) (b:(List BT)) (d:Option Bool):Nat→Int→Option Bool
 |0,_=>none
 |j+1,c=>
 cond (decide (c<(↑a.length:Int))) (
 Option.bind (ix a c) λg=>
 Option.bind (HQ N b g.X) λi=>
 cond (decide (i.1<g.Y)) (
 some false) (
 FE N a b d j (BM (c+1)))) (
 d)
def Gg (N:Nat) (a:(List BT)) (b:(List BT)):Option Bool:=
 Option.bind (Eo N a) λc=>
 Option.bind (cond (!c) (some true) (Option.bind (Eo N b) λd=>
 some (!d))) λg=>
 cond g (
 some false) (
 FE N a b (FG N a b) N 0)
def EU (N:Nat) (a:A4) (b:Bool):Option Bool:=
 cond b (
 Option.bind (B5 N a.Crest) λc=>
 Option.bind (cond c (Option.bind (B5 N a.Num) λd=>
 some d) (some false)) λg=>
 Option.bind (cond g (Option.bind (CD N a.Den 1 1125899906842624) λi=>
 some i) (some false)) λj=>
 some j) (
 cond (decide (a.Kind=2)) (
 Option.bind (B5 N a.Num) λk=>
 Option.bind (cond k (Option.bind (CD N a.Positions 1 64) λl=>
 some l) (some false)) λm=>
 Option.bind (cond m (Option.bind (CD N a.Speed 0 a.Positions) λn=>
 some n) (some false)) λo=>
 some o) (
 cond (decide (a.Kind=3)) (
 Option.bind (B5 N a.Num) λp=>
 Option.bind (cond p (Option.bind (CD N a.Den 1 1125899906842624) λq=>
 some q) (some false)) λs=>
 Option.bind (cond s (Option.bind (B5 N a.Prime) λt=>
 some t) (some false)) λu=>
 Option.bind (cond u (Option.bind (B5 N a.Break) λv=>
 some v) (some false)) λw=>
 some (w&&(decide (a.Break<a.Prime)))) (
 Option.bind (B5 N a.Num) λx=>
 Option.bind (cond x (Option.bind (CD N a.Den 1 1125899906842624) λy=>
 some y) (some false)) λz=>
 Option.bind (cond z (Option.bind (Fo N a.BackNum a.BackDen) λA=>
 some A) (some false)) λB=>
 some (B&&(decide (a.To≠(-1)))))))
def GX (N:Nat) (a:A4):Option Bool:=
 cond (decide (a.Kind=0)) (
 Option.bind (Eo N a.Rate) λb=>
 Option.bind (cond b (Option.bind (Eo N a.Band.Lo) λc=>
 some c) (some false)) λd=>
 Option.bind (cond d (Option.bind (Eo N a.Band.Hi) λg=>
 some g) (some false)) λi=>
 Option.bind (cond i (Option.bind (Gg N a.Band.Lo a.Rate) λj=>
 some j) (some false)) λk=>
 Option.bind (cond k (Option.bind (Gg N a.Rate a.Band.Hi) λl=>
 some l) (some false)) λm=>
 Option.bind (cond m (Option.bind (CD N a.Positions 0 64) λn=>
 some n) (some false)) λo=>
 Option.bind (cond o (Option.bind (CD N a.Speed 0 a.Positions) λp=>
 some p) (some false)) λq=>
 Option.bind (cond q (Option.bind (B5 N a.Leak) λs=>
 some s) (some false)) λt=>
 Option.bind (cond t (Option.bind (Fo N a.BackNum a.BackDen) λu=>
 some u) (some false)) λv=>
 some (v&&((decide (a.To≠(-1)))||(decide (a.BackDen=0))))) (
 cond (decide (a.Kind=1)) (
 EU N a (decide (a.Kind=1))) (
 EU N a (decide (a.Kind=5))))
def GU (N:Nat) (a:A4):Option Bool:=
 cond ((!(decide (a.Kind=0)))&&((((decide (0<(↑a.Rate.length:Int)))||(decide (0<(↑a.Band.Lo.length:Int))))||(decide (0<(↑a.Band.Hi.length:Int))))||(decide (a.Leak≠0)))) (
 some false) (
 cond (((!(decide (a.Kind=0)))&&(decide (a.Kind≠2)))&&((decide (a.Positions≠0))||(decide (a.Speed≠0)))) (
 some false) (
 cond (((decide (a.Kind≠1))&&(decide (a.Kind≠5)))&&(decide (a.Crest≠0))) (
 some false) (
 cond (((decide (a.Kind=0))&&(decide (a.Num≠0)))||(((decide (a.Kind=0))||(decide (a.Kind=2)))&&(decide (a.Den≠0)))) (
 some false) (
 cond ((decide (a.Kind≠3))&&((decide (a.Prime≠0))||(decide (a.Break≠0)))) (
 some false) (
 some (((decide (a.Kind=0))||(decide (a.Kind=4)))||((decide (a.BackNum=0))&&(decide (a.BackDen=0)))))))))
def Ei (N:Nat):Option Bool:=
 some true
def DN (N:Nat) (a:AW) (d:Option Bool):Nat→Int→Option Bool
 |0,_=>none
 |t+1,c=>
 cond (decide (c<(↑a.Links.length:Int))) (
 Option.bind (ix a.Links c) λb=>
 Option.bind (CD N b.Kind 0 5) λg=>
 Option.bind (cond (!g) (some true) (Option.bind (EE N b.From (↑a.Places.length:Int)) λi=>
 some (!i))) λj=>
 Option.bind (cond j (some true) (Option.bind (Hl N a b.From b.To) λk=>
 some (!k))) λl=>
 Option.bind (cond l (some true) (Option.bind (CD N b.Delay 0 240) λm=>
 some (!m))) λn=>
 Option.bind (cond n (some true) (Option.bind (GX N b) λo=>
 some (!o))) λp=>
 Option.bind (cond p (some true) (Option.bind (GU N b) λq=>
 some (!q))) λs=>
 cond s (
 some false) (
 DN N a d t (BM (c+1)))) (
 d)
def Gv (N:Nat) (a:AW):Option Bool:=
 DN N a (Ei N) N 0
def Ih (N:Nat) (c:AW) (a:Int) (b:Int):Option Bool:=
 cond (decide (b=(-1))) (
 some (decide (a=2))) (
 Option.bind (ix c.Places b) λd=>
 some ((decide (d.Office=a))||(decide (d.Office=(BM (a+1))))))
def Cu (N:Nat) (a:AW) (g:Option Bool):Nat→Int→Option Bool
 |0,_=>none
 |m+1,d=>
 cond (decide (d<(↑a.Links.length:Int))) (
 Option.bind (ix a.Links d) λb=>
 Option.bind (ix a.Places b.From) λc=>
 Option.bind (Ih N a c.Office b.To) λi=>
 Option.bind (cond (!i) (some true) (Option.bind (cond (decide (b.Kind=4)) (Option.bind (ix a.Places b.To) λj=>
 some (decide (j.Office≠c.Office))) (some false)) λk=>
 some k)) λl=>
 cond l (
 some false) (
 Cu N a g m (BM (d+1)))) (
 g)
def D7 (N:Nat):Option Bool:=
 some true
def Cw (N:Nat) (a:AW):Option Bool:=
 Cu N a (D7 N) N 0
def Cv (N:Nat) (a:AW) (c:Option Bool):Nat→Int→Option Bool
 |0,_=>none
 |i+1,b=>
 cond (decide (b<(↑a.Places.length:Int))) (
 Option.bind (ix a.Places b) λd=>
 Option.bind (Ih N a d.Office d.Down) λg=>
 cond (!g) (
 some false) (
 Cv N a c i (BM (b+1)))) (
 c)
def GB (N:Nat) (a:AW):Option Bool:=
 Cv N a (Cw N a) N 0
def Ig (N:Nat) (a:Int):Option Int:=
 some (BM a)
def Ep (N:Nat) (b:Int) (a:Int):Option Int:=
 cond (decide (a=0)) (
 some 0) (
 cond (decide (a<b)) (
 some 1099511627777) (
 Option.bind (GJ N (IntKind.wrap .u64 b) 1099511627776) λd=>
 Option.bind (Ee N d.1 d.2 (IntKind.wrap .u64 a)) λc=>
 cond (decide (c.2≠0)) (
 Ig N (IntKind.wrap .u64 (c.1+1))) (
 Ig N c.1)))
def DT (N:Nat) (a:Int):Option Int:=
 some a
def Dt (N:Nat) (a:(List BT)) (c:Int→Option Int):Nat→Int→Int→Option Int
 |0,_,_=>none
 |m+1,d,b=>
 cond (decide (b<(↑a.length:Int))) (
 Option.bind (ix a b) λg=>
 Option.bind (ix a (BM (b-1))) λi=>
 Option.bind (ix a b) λj=>
 Option.bind (ix a (BM (b-1))) λk=>
 Option.bind (Ep N (BM (g.Y-i.Y)) (BM (j.X-k.X))) λl=>
 Dt N a c m (max d l) (BM (b+1))) (
 c d)
def Ea (N:Nat) (a:Int) (b:Int→Int→Option Int) (c:Int):Option Int:=
 b c (BM (a+1))
def CY (N:Nat) (a:(List (List BT))) (c:Int→Option Int):Nat→Int→Int→Option Int
 |0,_,_=>none
 |i+1,g,b=>
 cond (decide (b<(↑a.length:Int))) (
 Option.bind (ix a b) λd=>
 Dt N d (Ea N b (CY N a c i)) N g 1) (
 c g)
def Hm (N:Nat) (a:(List (List BT))):Option Int:=
 CY N a (DT N) N 0 0
def B7 (N:Nat) (b:Int) (c:Int→(List Int)→Option Bool) (a:List Int):Option Bool:=
 c (BM (b+1)) a
def DB (N:Nat) (b:List Int) (a:A4) (g:(List Int)→Option Bool) (i:Bool):Option Bool:=
 cond i (
 Option.bind (ix b a.From) λn=>
 Option.bind (ix b a.From) λj=>
 Option.bind (Ep N a.Num a.Den) λk=>
 Option.bind (ix b a.From) λo=>
 Option.bind (ix b a.From) λp=>
 g (upd b a.From (BM (j+k)))) (
 cond (decide (a.Kind=4)) (
 Option.bind (ix b a.From) λq=>
 Option.bind (ix b a.From) λc=>
 Option.bind (Ep N a.Num a.Den) λd=>
 Option.bind (ix b a.From) λs=>
 Option.bind (ix b a.From) λt=>
 Option.bind (ix (upd b a.From (BM (c+(BM (2*d))))) a.To) λu=>
 Option.bind (ix (upd b a.From (BM (c+(BM (2*d))))) a.To) λl=>
 Option.bind (Ep N a.BackNum a.BackDen) λm=>
 Option.bind (ix (upd b a.From (BM (c+(BM (2*d))))) a.To) λv=>
 Option.bind (ix (upd b a.From (BM (c+(BM (2*d))))) a.To) λw=>
 g (upd (upd b a.From (BM (c+(BM (2*d))))) a.To (BM (l+(BM (2*m)))))) (
 g b))
def GZ (N:Nat) (b:Bool→Option Bool) (a:Bool):Option Bool:=
 b a
def BS (N:Nat) (c:AW) (j:(List Int)→Option Bool):Nat→Int→(List Int)→Option Bool
 |0,_,_=>none
 |k+1,i,b=>
 cond (decide (i<(↑c.Links.length:Int))) (
 Option.bind (ix c.Links i) λa=>
 cond (decide (a.Kind=0)) (
 Option.bind (ix b a.From) λn=>
 Option.bind (ix b a.From) λd=>
 Option.bind (Hm N ([a.Rate,a.Band.Lo,a.Band.Hi]:List (List BT))) λg=>
 Option.bind (ix b a.From) λo=>
 Option.bind (ix b a.From) λp=>
 cond (decide (a.To≠(-1))) (
 Option.bind (ix (upd b a.From (BM (d+g))) a.To) λq=>
 Option.bind (ix (upd b a.From (BM (d+g))) a.To) λl=>
 Option.bind (Ep N a.BackNum a.BackDen) λm=>
 Option.bind (ix (upd b a.From (BM (d+g))) a.To) λs=>
 Option.bind (ix (upd b a.From (BM (d+g))) a.To) λt=>
 B7 N i (BS N c j k) (upd (upd b a.From (BM (d+g))) a.To (BM (l+m)))) (
 B7 N i (BS N c j k) (upd b a.From (BM (d+g))))) (
 cond (decide (a.Kind=1)) (
 DB N b a (B7 N i (BS N c j k)) (decide (a.Kind=1))) (
 cond (decide (a.Kind=5)) (
 GZ N (DB N b a (B7 N i (BS N c j k))) (decide (a.Kind=5))) (
 GZ N (DB N b a (B7 N i (BS N c j k))) (decide (a.Kind=3)))))) (
 j b)
def C9 (N:Nat) (b:List Int) (c:Option Bool):Nat→Int→Option Bool
 |0,_=>none
 |i+1,a=>
 cond (decide (a<(↑b.length:Int))) (
 Option.bind (ix b a) λg=>
 Option.bind (ix b a) λd=>
 cond (decide (1099511627776<d)) (
 some false) (
 C9 N b c i (BM (a+1)))) (
 c)
def ES (N:Nat):Option Bool:=
 some true
def CG (N:Nat) (a:List Int):Option Bool:=
 C9 N a (ES N) N 0
def DC (N:Nat) (a:AW) (b:List Int):Option Bool:=
 BS N a (CG N) N 0 b
def DA (N:Nat) (b:AW) (d:(List Int)→Option Bool):Nat→Int→(List Int)→Option Bool
 |0,_,_=>none
 |j+1,a,c=>
 cond (decide (a<(↑b.Places.length:Int))) (
 Option.bind (ix b.Places a) λg=>
 Option.bind (Ep N g.Num g.Den) λi=>
 Option.bind (ix c a) λk=>
 Option.bind (ix c a) λl=>
 DA N b d j (BM (a+1)) (upd c a i)) (
 d c)
def GV (N:Nat) (a:AW):Option Bool:=
 chk (JF (↑a.Places.length:Int) (↑a.Places.length:Int) 8) <|
 DA N a (DC N a) N 0 (List.replicate ((↑a.Places.length:Int):Int).toNat (0:Int))
def DJ (N:Nat) (a:AW) (c:Option Bool):Nat→Int→Option Bool
 |0,_=>none
 |i+1,b=>
 cond (decide (b<(↑a.Shelters.length:Int))) (
 Option.bind (ix a.Shelters b) λd=>
 Option.bind (CD N d.Room 0 1073741824) λg=>
 cond (!g) (
 some false) (
 DJ N a c i (BM (b+1)))) (
 c)
def Eg (N:Nat):Option Bool:=
 some true
def DL (N:Nat) (a:AW):Option Bool:=
 DJ N a (Eg N) N 0
def DK (N:Nat) (a:AW) (d:Option Bool):Nat→Int→Option Bool
 |0,_=>none
 |t+1,c=>
 cond (decide (c<(↑a.Towns.length:Int))) (
 Option.bind (ix a.Towns c) λb=>
 Option.bind (EE N b.Place (↑a.Places.length:Int)) λg=>
 Option.bind (cond (!g) (some true) (Option.bind (B5 N b.Flood) λi=>
 some (!i))) λj=>
 Option.bind (cond j (some true) (Option.bind (CD N b.Lead 0 24) λk=>
 some (!k))) λl=>
 Option.bind (cond l (some true) (Option.bind (CD N b.People 0 1073741824) λm=>
 some (!m))) λn=>
 Option.bind (cond n (some true) (Option.bind (B5 N b.Watch) λo=>
 some (!o))) λp=>
 Option.bind (cond p (some true) (Option.bind (CD N b.Quorum 0 128) λq=>
 some (!q))) λs=>
 cond s (
 some false) (
 DK N a d t (BM (c+1)))) (
 d)
def Gt (N:Nat) (a:AW):Option Bool:=
 DK N a (DL N a) N 0
def ET (N:Nat):Option Bool:=
 some true
def DD (N:Nat) (a:AW) (d:Option Bool):Nat→Int→Option Bool
 |0,_=>none
 |o+1,c=>
 cond (decide (c<(↑a.Gauges.length:Int))) (
 Option.bind (ix a.Gauges c) λb=>
 Option.bind (CD N b.Kind 0 2) λg=>
 Option.bind (cond (!g) (some true) (Option.bind (CD N b.Err 0 1099511627776) λi=>
 some (!i))) λj=>
 Option.bind (cond j (some true) (Option.bind (CD N b.Drift 0 1440) λk=>
 some (!k))) λl=>
 cond l (
 some false) (
 Option.bind (ix ([(↑a.Places.length:Int),a.Cells,(↑a.Links.length:Int)]:List Int) b.Kind) λm=>
 Option.bind (EE N b.Target m) λn=>
 cond (!n) (
 some false) (
 DD N a d o (BM (c+1))))) (
 d)
def GW (N:Nat) (a:AW):Option Bool:=
 DD N a (ET N) N 0
def Eh (N:Nat):Option Bool:=
 some true
def DM (N:Nat) (a:AW) (d:Option Bool):Nat→Int→Option Bool
 |0,_=>none
 |u+1,c=>
 cond (decide (c<(↑a.Roads.length:Int))) (
 Option.bind (ix a.Roads c) λb=>
 Option.bind (EE N b.From (↑a.Towns.length:Int)) λg=>
 Option.bind (cond (!g) (some true) (Option.bind (EE N b.To (BM ((↑a.Towns.length:Int)+(↑a.Shelters.length:Int)))) λi=>
 some (!i))) λj=>
 Option.bind (cond (j||(decide (b.From=b.To))) (some true) (Option.bind (CD N b.Hours 1 24) λk=>
 some (!k))) λl=>
 Option.bind (cond l (some true) (Option.bind (CD N b.Flow 0 1073741824) λm=>
 some (!m))) λn=>
 Option.bind (cond n (some true) (Option.bind (B5 N b.Limit) λo=>
 some (!o))) λp=>
 cond p (
 some false) (
 Option.bind (cond ((decide (b.By=(-1)))&&(decide (b.Limit≠0))) (some true) (Option.bind (cond (decide (b.By≠(-1))) (Option.bind (EE N b.By (↑a.Places.length:Int)) λq=>
 some (!q)) (some false)) λs=>
 some s)) λt=>
 cond t (
 some false) (
 DM N a d u (BM (c+1))))) (
 d)
def Gu (N:Nat) (a:AW):Option Bool:=
 DM N a (Eh N) N 0
def IG (N:Nat) (a:AW):Option Bool:=
 Option.bind (HK N a) λv=>
 Option.bind (cond v (Option.bind (H0 N a) λb=>
 some b) (some false)) λc=>
 Option.bind (cond c (Option.bind (HU N a) λd=>
 some d) (some false)) λg=>
 Option.bind (cond g (Option.bind (Gv N a) λi=>
 some i) (some false)) λj=>
 Option.bind (cond j (Option.bind (GB N a) λk=>
 some k) (some false)) λl=>
 Option.bind (cond l (Option.bind (GV N a) λm=>
 some m) (some false)) λn=>
 Option.bind (cond n (Option.bind (Gt N a) λo=>
 some o) (some false)) λp=>
 Option.bind (cond p (Option.bind (GW N a) λq=>
 some q) (some false)) λs=>
 Option.bind (cond s (Option.bind (Gu N a) λt=>
 some t) (some false)) λu=>
 some u
def Fc (N:Nat):Option Bool:=
 some true
def Do (N:Nat) (a:(List Int)) (c:Option Bool):Nat→Int→Int→Option Bool
 |0,_,_=>none
 |i+1,g,d=>
 cond (decide (d<(↑a.length:Int))) (
 Option.bind (ix a d) λb=>
 cond ((decide (b<0))||(decide ((BM (1125899906842624-g))<b))) (
 some false) (
 Do N a c i (BM (g+b)) (BM (d+1)))) (
 c)
def HI (N:Nat) (a:(List Int)):Option Bool:=
 Do N a (Fc N) N 0 0
def If (N:Nat) (b:(List Int)) (a:Int):Option Bool:=
 Option.bind (cond (((decide (0≤a))&&(decide (a≤16)))&&(decide ((↑b.length:Int)=a))) (Option.bind (HI N b) λc=>
 some c) (some false)) λd=>
 some d
def Ff (N:Nat) (b:Int) (a:Int):Option Int:=
 cond ((decide (0<a))&&(decide ((BM (9223372036854775807-a))<b))) (
 some 9223372036854775807) (
 cond ((decide (a<0))&&(decide (b<(BM ((-9223372036854775808)-a))))) (
 some (-9223372036854775808)) (
 some (BM (b+a))))
def G3 (N:Nat) (a:Int):Option Int:=
 some a
def Fd (N:Nat) (a:(List Int)) (c:Int→Option Int):Nat→Int→Int→Option Int
 |0,_,_=>none
 |j+1,i,b=>
 cond (decide (b<(↑a.length:Int))) (
 Option.bind (ix a b) λd=>
 Option.bind (Ff N i d) λg=>
 Fd N a c j g (BM (b+1))) (
 c i)
def Dd (N:Nat) (a:(List Int)):Option Int:=
 Fd N a (G3 N) N 0 0
def qZ (N:Nat) (b:Int) (a:Int):Option Bool:=
 some ((decide (0≤b))&&(decide (b<a)))
def E4 (N:Nat) (b:AW) (a:Am) (j:Int→Option (Int×Bool)):Nat→Int→Int→Option (Int×Bool)
 |0,_,_=>none
 |o+1,g,i=>
 cond (decide (i<(↑a.Queue.length:Int))) (
 Option.bind (ix a.Queue i) λd=>
 Option.bind (cond (decide (d.At<a.Hour)) (some true) (Option.bind (qZ N d.To (↑b.Places.length:Int)) λk=>
 some (!k))) λl=>
 Option.bind (cond l (some true) (Option.bind (If N d.Part (↑b.Owners.length:Int)) λm=>
 some (!m))) λn=>
 cond n (
 some (0,false)) (
 Option.bind (Dd N d.Part) λc=>
 cond ((decide (c≤0))||(decide (1125899906842624<(BM (g+c))))) (
 some (0,false)) (
 E4 N b a j o (BM (g+c)) (BM (i+1))))) (
 j g)
def Gj (N:Nat) (a:Int):Option (Int×Bool):=
 some (a,true)
def EI (N:Nat) (a:AW) (b:Am) (c:Int):Option (Int×Bool):=
 E4 N a b (Gj N) N c 0
def EH (N:Nat) (b:AW) (a:Am) (g:Int→Option (Int×Bool)):Nat→Int→Int→Option (Int×Bool)
 |0,_,_=>none
 |l+1,c,d=>
 cond (decide (d<(↑a.Own.length:Int))) (
 Option.bind (ix a.Own d) λi=>
 Option.bind (If N i (↑b.Owners.length:Int)) λk=>
 cond (!k) (
 some (0,false)) (
 Option.bind (Dd N i) λj=>
 cond (decide (1125899906842624<(BM (c+j)))) (
 some (0,false)) (
 EH N b a g l (BM (c+j)) (BM (d+1))))) (
 g c)
def Iu (N:Nat) (a:AW) (b:Am):Option (Int×Bool):=
 EH N a b (EI N a b) N 0 0
def GG (N:Nat) (a:Int):Option (Int×Bool):=
 some (a,true)
def Eb (N:Nat) (b:(List Int)) (a:Int) (g:Int→Option (Int×Bool)):Nat→Int→Int→Option (Int×Bool)
 |0,_,_=>none
 |j+1,i,c=>
 cond (decide (c<(↑b.length:Int))) (
 Option.bind (ix b c) λd=>
 cond ((decide (d<0))||(decide ((BM (a-i))<d))) (
 some (0,false)) (
 Eb N b a g j (BM (i+d)) (BM (c+1)))) (
 g i)
def Hb (N:Nat) (b:(List Int)) (a:Int):Option (Int×Bool):=
 Eb N b a (GG N) N 0 0
def Ev (N:Nat) (d:AW) (g:Am) (i:Option Bool):Nat→Int→Option Bool
 |0,_=>none
 |j+1,b=>
 cond (decide (b<(↑d.Links.length:Int))) (
 Option.bind (ix d.Links b) λc=>
 Option.bind (ix g.Gates b) λa=>
 cond ((((decide (a.Pos<0))||(decide (c.Positions<a.Pos)))||(decide (a.Target<0)))||(decide (c.Positions<a.Target))) (
 some false) (
 cond ((a.Open&&(decide (c.Kind≠5)))&&(decide (c.Kind≠3))) (
 some false) (
 Ev N d g i j (BM (b+1))))) (
 i)
def Ex (N:Nat) (d:AW) (a:Am):Option Bool:=
 Option.bind (Iu N d a) λb=>
 cond (!b.2) (
 some false) (
 Option.bind (Hb N a.In 1152921504606846976) λc=>
 cond (!c.2) (
 some false) (
 Option.bind (Hb N a.Out (BM ((BM (c.1+1125899906842624))-b.1))) λg=>
 some g.2))
def Ey (N:Nat) (a:AW) (b:Am):Option Bool:=
 Ev N a b (Ex N a b) N 0
def Ew (N:Nat) (a:AW) (b:Am) (d:Option Bool):Nat→Int→Option Bool
 |0,_=>none
 |l+1,c=>
 cond (decide (c<(↑a.Places.length:Int))) (
 Option.bind (ix a.Places c) λk=>
 Option.bind (ix b.Rem c) λg=>
 Option.bind (cond (decide (g<0)) (some true) (Option.bind (ix b.Rem c) λi=>
 some (decide ((max 0 (BM (k.Den-1)))<i)))) λj=>
 cond j (
 some false) (
 Ew N a b d l (BM (c+1)))) (
 d)
def Hx (N:Nat) (b:AW) (a:Am):Option Bool:=
 cond (((((((decide (a.Hour<0))||(decide (16777216<a.Hour)))||(decide ((↑a.Own.length:Int)≠(↑b.Places.length:Int))))||(decide ((↑a.Rem.length:Int)≠(↑b.Places.length:Int))))||(decide ((↑a.Gates.length:Int)≠(↑b.Links.length:Int))))||(decide ((↑a.In.length:Int)≠(↑b.Owners.length:Int))))||(decide ((↑a.Out.length:Int)≠(↑b.Owners.length:Int)))) (
 some false) (
 Ew N b a (Ey N b a) N 0)
def B4 (N:Nat) (a:(List Ax)):Option (List Ax):=
 chk (KR (([]:List Ax).length+a.length) 24) <|
 some (([]:List Ax)++a)
def EK (N:Nat) (a:Am) (d:List (List Int)):Option Am:=
 Option.bind (CE N a.Rem) λg=>
 Option.bind (B4 N a.Gates) λi=>
 Option.bind (CE N a.In) λb=>
 Option.bind (CE N a.Out) λc=>
 some (⟨a.Hour,d,g,a.Queue,i,b,c⟩:Am)
def EJ (N:Nat) (b:Am) (d:(List (List Int))→Option Am):Nat→Int→(List (List Int))→Option Am
 |0,_,_=>none
 |j+1,a,c=>
 cond (decide (a<(↑b.Own.length:Int))) (
 Option.bind (ix b.Own a) λg=>
 Option.bind (CE N g) λi=>
 Option.bind (ix c a) λk=>
 Option.bind (ix c a) λl=>
 EJ N b d j (BM (a+1)) (upd c a i)) (
 d c)
def Iv (N:Nat) (a:Am):Option Am:=
 chk (JF (↑a.Own.length:Int) (↑a.Own.length:Int) 24) <|
 EJ N a (EK N a) N 0 (List.replicate ((↑a.Own.length:Int):Int).toNat ([]:(List Int)))
def Fe (N:Nat) (a:Ax) (b:Bool) (c:Bool):Option Ax:=
 some (⟨a.Pos,a.Target,b,c⟩:Ax)
def G4 (N:Nat) (d:A4) (a:Ax) (b:Int) (c:Bool→Bool→Option Ax) (g:Bool):Option Ax:=
 cond g (
 cond (decide (d.Kind=5)) (
 c a.Stuck (decide (b=2))) (
 c a.Stuck a.Open)) (
 c a.Stuck a.Open)
def Hy (N:Nat) (c:A4) (b:Ax) (a:Int):Option Ax:=
 cond (decide (a=0)) (
 Fe N b true b.Open) (
 cond (decide (a=1)) (
 Fe N b false b.Open) (
 cond (decide (a=2)) (
 G4 N c b a (Fe N b) (decide (a=2))) (
 G4 N c b a (Fe N b) (decide (a=3)))))
def Gf (N:Nat) (c:Int) (b:Int) (a:Int):Option Int:=
 cond (decide (c<b)) (
 some b) (
 cond (decide (a<c)) (
 some a) (
 some c))
def Jo (N:Nat) (a:Ax) (b:Int):Option Ax:=
 some ({ a with Target:=b}:Ax)
def JB (N:Nat) (c:A4) (b:Ax) (a:Int):Option Ax:=
 cond (decide (c.Positions≠0)) (
 Option.bind (Gf N a 0 c.Positions) λd=>
 Jo N b d) (
 Jo N b b.Target)
def Ge (N:Nat) (b:Int) (a:Int):Option Int:=
 cond ((decide (a<0))&&(decide ((BM (9223372036854775807+a))<b))) (
 some 9223372036854775807) (
 cond ((decide (0<a))&&(decide (b<(BM ((-9223372036854775808)+a))))) (
 some (-9223372036854775808)) (
 some (BM (b-a))))
def IY (N:Nat) (b:A4) (a:Ax):Option Ax:=
 cond a.Stuck (
 some a) (
 Option.bind (Ge N a.Target a.Pos) λc=>
 Option.bind (Ge N 0 b.Speed) λd=>
 Option.bind (Gf N c d b.Speed) λg=>
 Option.bind (Ff N a.Pos g) λi=>
 some ({ a with Pos:=i}:Ax))
def F6 (N:Nat) (a:Int) (b:Int→(List Ax)→Option (List Ax)) (c:List Ax):Option (List Ax):=
 b (BM (a+1)) c
def CQ (N:Nat) (p0_w:An) (g:(List Ax)→Option (List Ax)):Nat→Int→(List Ax)→Option (List Ax)
 |0,_,_=>none
 |m+1,d,c=>
 cond (decide (d<(↑p0_w.in_.Cmds.length:Int))) (
 Option.bind (ix p0_w.in_.Cmds d) λa=>
 Option.bind (qZ N a.Link (↑p0_w.b.Links.length:Int)) λi=>
 cond i (
 Option.bind (ix p0_w.b.Links a.Link) λj=>
 Option.bind (ix c a.Link) λn=>
 Option.bind (ix c a.Link) λk=>
 Option.bind (JB N j k a.Target) λl=>
 Option.bind (ix c a.Link) λo=>
 Option.bind (ix c a.Link) λp=>
 F6 N d (CQ N p0_w g m) (upd c a.Link l)) (
 F6 N d (CQ N p0_w g m) c)) (
 g c)
def DY (N:Nat) (p0_w:An):Nat→Int→(List Ax)→Option (List Ax)
 |0,_,_=>none
 |m+1,a,c=>
 cond (decide (a<(↑p0_w.b.Links.length:Int))) (
 Option.bind (ix p0_w.b.Links a) λd=>
 Option.bind (ix c a) λj=>
 Option.bind (ix c a) λg=>
 Option.bind (IY N d g) λi=>
 Option.bind (ix c a) λk=>
 Option.bind (ix c a) λl=>
 DY N p0_w m (BM (a+1)) (upd c a i)) (
 some c)
def Cf (N:Nat) (p0_w:An) (a:List Ax):Option (List Ax):=
 DY N p0_w N 0 a
def Cg (N:Nat) (p0_w:An) (a:List Ax):Option (List Ax):=
 CQ N p0_w (Cf N p0_w) N 0 a
def F7 (N:Nat) (c:Int) (a:Int→(List Ax)→Option (List Ax)) (b:List Ax):Option (List Ax):=
 a (BM (c+1)) b
def CR (N:Nat) (p0_w:An) (c:(List Ax)→Option (List Ax)):Nat→Int→(List Ax)→Option (List Ax)
 |0,_,_=>none
 |m+1,g,d=>
 cond (decide (g<(↑p0_w.in_.Faults.length:Int))) (
 Option.bind (ix p0_w.in_.Faults g) λa=>
 Option.bind (qZ N a.Link (↑p0_w.b.Links.length:Int)) λi=>
 cond i (
 Option.bind (ix p0_w.b.Links a.Link) λj=>
 Option.bind (ix d a.Link) λn=>
 Option.bind (ix d a.Link) λk=>
 Option.bind (Hy N j k a.Kind) λl=>
 Option.bind (ix d a.Link) λo=>
 Option.bind (ix d a.Link) λp=>
 F7 N g (CR N p0_w c m) (upd d a.Link l)) (
 F7 N g (CR N p0_w c m) d)) (
 c d)
def HD (N:Nat) (p0_w:An):Option (List Ax):=
 CR N p0_w (Cg N p0_w) N 0 p0_w.s.Gates
def Km (N:Nat) (b:(List Int)) (a:Int):Option Int:=
 Option.bind (cond ((decide (a<0))||(decide ((↑b.length:Int)≤a))) (some true) (Option.bind (ix b a) λd=>
 some (decide (d<0)))) λg=>
 cond g (
 some 0) (
 Option.bind (ix b a) λc=>
 some c)
def JO (N:Nat) (a:List Int):Option (List Int):=
 some a
def MT (N:Nat) (a:(List Int)) (b:Int) (c:Int) (d:Int):Option (List Int):=
 chk (JF (↑a.length:Int) (↑a.length:Int) 8) <|
 Option.bind (Km N a b) λg=>
 cond ((((decide (0<(min d g)))&&(decide (0≤c)))&&(decide (c<(↑a.length:Int))))&&(decide (b≠c))) (
 Option.bind (ix (Mw (List.replicate ((↑a.length:Int):Int).toNat (0:Int)) a) b) λl=>
 Option.bind (ix (Mw (List.replicate ((↑a.length:Int):Int).toNat (0:Int)) a) b) λi=>
 Option.bind (ix (Mw (List.replicate ((↑a.length:Int):Int).toNat (0:Int)) a) b) λm=>
 Option.bind (ix (Mw (List.replicate ((↑a.length:Int):Int).toNat (0:Int)) a) b) λn=>
 Option.bind (ix (upd (Mw (List.replicate ((↑a.length:Int):Int).toNat (0:Int)) a) b (BM (i-(min d g)))) c) λo=>
 Option.bind (ix (upd (Mw (List.replicate ((↑a.length:Int):Int).toNat (0:Int)) a) b (BM (i-(min d g)))) c) λj=>
 Option.bind (Ff N j (min d g)) λk=>
 Option.bind (ix (upd (Mw (List.replicate ((↑a.length:Int):Int).toNat (0:Int)) a) b (BM (i-(min d g)))) c) λp=>
 Option.bind (ix (upd (Mw (List.replicate ((↑a.length:Int):Int).toNat (0:Int)) a) b (BM (i-(min d g)))) c) λq=>
 JO N (upd (upd (Mw (List.replicate ((↑a.length:Int):Int).toNat (0:Int)) a) b (BM (i-(min d g)))) c k)) (
 JO N (Mw (List.replicate ((↑a.length:Int):Int).toNat (0:Int)) a))
def HC (N:Nat) (c:Int) (a:Int→(List (List Int))→Option (List (List Int))) (b:List (List Int)):Option (List (List Int)):=
 a (BM (c+1)) b
def DX (N:Nat) (p0_w:An):Nat→Int→(List (List Int))→Option (List (List Int))
 |0,_,_=>none
 |o+1,d,c=>
 cond (decide (d<(↑p0_w.in_.Swaps.length:Int))) (
 Option.bind (ix p0_w.in_.Swaps d) λa=>
 Option.bind (qZ N a.Place (↑p0_w.b.Places.length:Int)) λg=>
 Option.bind (cond g (Option.bind (qZ N a.From (↑p0_w.b.Owners.length:Int)) λi=>
 some i) (some false)) λj=>
 Option.bind (cond j (Option.bind (qZ N a.To (↑p0_w.b.Owners.length:Int)) λk=>
 some k) (some false)) λl=>
 cond l (
 Option.bind (ix c a.Place) λq=>
 Option.bind (ix c a.Place) λm=>
 Option.bind (MT N m a.From a.To a.Litres) λn=>
 Option.bind (ix c a.Place) λs=>
 Option.bind (ix c a.Place) λp=>
 HC N d (DX N p0_w o) (upd c a.Place n)) (
 HC N d (DX N p0_w o) c)) (
 some c)
def GH (N:Nat) (p0_w:An):Option (List (List Int)):=
 DX N p0_w N 0 p0_w.s.Own
def DO (N:Nat) (p0_w:An) (b:Int→Option ((List (List Int))×(List Int)×(List Ah))):Nat→Int→Int→Option ((List (List Int))×(List Int)×(List Ah))
 |0,_,_=>none
 |i+1,c,a=>
 cond (decide (a<(↑p0_w.s.Queue.length:Int))) (
 Option.bind (ix p0_w.s.Queue a) λd=>
 Option.bind (Dd N d.Part) λg=>
 DO N p0_w b i (BM (c+g)) (BM (a+1))) (
 b c)
def Fa (N:Nat) (p0_w:An) (k:Int) (l:Int) (d:Int) (i:List Ah) (g:List (List Int)) (c:List Int) (m:Int→Int→(List Ah)→(List (List Int))→(List Int)→Option ((List (List Int))×(List Int)×(List Ah))) (a:Int):Option ((List (List Int))×(List Int)×(List Ah)):=
 cond (decide (a≤0)) (
 m k l i g c) (
 Option.bind (ix g d) λp=>
 Option.bind (ix g d) λj=>
 Option.bind (ix j 0) λn=>
 Option.bind (ix j 0) λq=>
 Option.bind (ix c 0) λt=>
 Option.bind (ix c 0) λo=>
 Option.bind (ix c 0) λu=>
 Option.bind (ix c 0) λv=>
 chk (JF (↑p0_w.b.Owners.length:Int) (↑p0_w.b.Owners.length:Int) 8) <|
 Option.bind (ix (List.replicate ((↑p0_w.b.Owners.length:Int):Int).toNat (0:Int)) 0) λw=>
 Option.bind (ix (List.replicate ((↑p0_w.b.Owners.length:Int):Int).toNat (0:Int)) 0) λx=>
 chk (KR (i.length+([(⟨p0_w.s.Hour,(-1),d,(-4),(upd (List.replicate ((↑p0_w.b.Owners.length:Int):Int).toNat (0:Int)) 0 a)⟩:Ah)]:List Ah).length) 56) <|
 m (BM (k+a)) (BM (l+a)) (i++([(⟨p0_w.s.Hour,(-1),d,(-4),(upd (List.replicate ((↑p0_w.b.Owners.length:Int):Int).toNat (0:Int)) 0 a)⟩:Ah)]:List Ah)) (upd g d (upd j 0 (BM (n+a)))) (upd c 0 (BM (o+a))))
def EZ (N:Nat) (a:Int) (j:Int→Int→Int→(List Ah)→(List (List Int))→(List Int)→Option ((List (List Int))×(List Int)×(List Ah))) (b:Int) (c:Int) (d:List Ah) (g:List (List Int)) (i:List Int):Option ((List (List Int))×(List Int)×(List Ah)):=
 j b c (BM (a+1)) d g i
def CI (N:Nat) (p0_w:An):Nat→Int→Int→Int→(List Ah)→(List (List Int))→(List Int)→Option ((List (List Int))×(List Int)×(List Ah))
 |0,_,_,_,_,_,_=>none
 |l+1,c,d,a,g,i,j=>
 cond (decide (a<(↑p0_w.b.Places.length:Int))) (
 cond (decide (a<(↑p0_w.in_.Rain.length:Int))) (
 Option.bind (ix p0_w.in_.Rain a) λk=>
 Fa N p0_w c d a g i j (EZ N a (CI N p0_w l)) (min (min k (BM (1125899906842624-c))) (BM (1152921504606846976-d)))) (
 Fa N p0_w c d a g i j (EZ N a (CI N p0_w l)) 0)) (
 some (i,j,g))
def DQ (N:Nat) (p0_w:An) (a:Int):Option ((List (List Int))×(List Int)×(List Ah)):=
 Option.bind (Dd N p0_w.s.In) λb=>
 CI N p0_w N a b 0 p0_w.moves p0_w.s.Own p0_w.s.In
def DR (N:Nat) (p0_w:An) (a:Int):Option ((List (List Int))×(List Int)×(List Ah)):=
 DO N p0_w (DQ N p0_w) N a 0
def DP (N:Nat) (p0_w:An) (b:Int→Option ((List (List Int))×(List Int)×(List Ah))):Nat→Int→Int→Option ((List (List Int))×(List Int)×(List Ah))
 |0,_,_=>none
 |i+1,g,a=>
 cond (decide (a<(↑p0_w.s.Own.length:Int))) (
 Option.bind (ix p0_w.s.Own a) λj=>
 Option.bind (ix p0_w.s.Own a) λc=>
 Option.bind (Dd N c) λd=>
 DP N p0_w b i (BM (g+d)) (BM (a+1))) (
 b g)
def Hc (N:Nat) (p0_w:An):Option ((List (List Int))×(List Int)×(List Ah)):=
 DP N p0_w (DR N p0_w) N 0 0
def Gc (N:Nat) (a:List Int):Option (List Int):=
 some a
def Em (N:Nat) (c:(List Int)) (d:(List Int)→Option (List Int)):Nat→Int→(List Int)→Option (List Int)
 |0,_,_=>none
 |k+1,a,b=>
 cond (decide (a<(↑c.length:Int))) (
 Option.bind (ix c a) λg=>
 Option.bind (ix b a) λl=>
 Option.bind (ix b a) λi=>
 Option.bind (Ff N i g) λj=>
 Option.bind (ix b a) λm=>
 Option.bind (ix b a) λn=>
 Em N c d k (BM (a+1)) (upd b a j)) (
 d b)
def GN (N:Nat) (a:(List Int)) (b:(List Int)):Option (List Int):=
 chk (JF (max (↑a.length:Int) (↑b.length:Int)) (max (↑a.length:Int) (↑b.length:Int)) 8) <|
 Em N b (Gc N) N 0 (Mw (List.replicate ((max (↑a.length:Int) (↑b.length:Int)):Int).toNat (0:Int)) a)
def IW (N:Nat) (a:Int) (b:(List Av)→Int→(List (List Int))→Option ((List (List Int))×(List Av))) (c:List Av) (d:List (List Int)):Option ((List (List Int))×(List Av)):=
 b c (BM (a+1)) d
def El (N:Nat) (d:(List Av)) (b:Int) (n:Int) (k:(List Av)→(List (List Int))→Option ((List (List Int))×(List Av))):Nat→(List Av)→Int→(List (List Int))→Option ((List (List Int))×(List Av))
 |0,_,_,_=>none
 |o+1,g,i,c=>
 cond (decide (i<(↑d.length:Int))) (
 Option.bind (ix d i) λa=>
 cond (((decide (a.At≤b))&&(decide (0≤a.To)))&&(decide (a.To<n))) (
 Option.bind (ix c a.To) λp=>
 Option.bind (ix c a.To) λl=>
 Option.bind (GN N l a.Part) λm=>
 Option.bind (ix c a.To) λq=>
 Option.bind (ix c a.To) λs=>
 IW N i (El N d b n k o) g (upd c a.To m)) (
 Option.bind (CE N a.Part) λj=>
 chk (KR (g.length+([({ a with Part:=j}:Av)]:List Av).length) 40) <|
 IW N i (El N d b n k o) (g++([({ a with Part:=j}:Av)]:List Av)) c)) (
 k g c)
def Gr (N:Nat) (a:List Av) (b:List (List Int)):Option ((List (List Int))×(List Av)):=
 some (b,a)
def FW (N:Nat) (b:(List Av)) (a:Int) (d:Int) (c:List (List Int)):Option ((List (List Int))×(List Av)):=
 El N b a d (Gr N) N ([]:List Av) 0 c
def FV (N:Nat) (g:Int) (d:Int) (c:(List (List Int))→Option ((List (List Int))×(List Av))):Nat→Int→(List (List Int))→Option ((List (List Int))×(List Av))
 |0,_,_=>none
 |i+1,a,b=>
 cond (decide (a<(↑(List.replicate (g:Int).toNat ([]:(List Int))).length:Int))) (
 chk (JF d d 8) <|
 Option.bind (ix b a) λj=>
 Option.bind (ix b a) λk=>
 FV N g d c i (BM (a+1)) (upd b a (List.replicate (d:Int).toNat (0:Int)))) (
 c b)
def J2 (N:Nat) (d:(List Av)) (c:Int) (a:Int) (b:Int):Option ((List (List Int))×(List Av)):=
 Option.bind (Gf N a 0 64) λg=>
 Option.bind (Gf N b 0 16) λi=>
 chk (JF g g 24) <|
 FV N g i (FW N d c g) N 0 (List.replicate (g:Int).toNat ([]:(List Int)))
def He (N:Nat) (a:Ax) (b:Bool):Option Ax:=
 some ({ a with Open:=b}:Ax)
def HO (N:Nat) (b:A4) (a:Ax) (c:Int):Option Ax:=
 cond (decide (b.Kind≠3)) (
 some a) (
 cond (decide (b.Prime≤c)) (
 He N a true) (
 cond (decide (c≤b.Break)) (
 He N a false) (
 He N a a.Open)))
def E8 (N:Nat) (a:Int) (c:Int→(List Ax)→Option ((List (List Int))×(List Av)×(List Ax)×(List Int))) (b:List Ax):Option ((List (List Int))×(List Av)×(List Ax)×(List Int)):=
 c (BM (a+1)) b
def CM (N:Nat) (p0_w:An) (j:(List (List Int))×(List Av)) (i:List (List Int)) (d:List Int):Nat→Int→(List Ax)→Option ((List (List Int))×(List Av)×(List Ax)×(List Int))
 |0,_,_=>none
 |n+1,a,c=>
 cond (decide (a<(↑p0_w.b.Links.length:Int))) (
 Option.bind (ix p0_w.b.Links a) λg=>
 cond (decide (g.Kind=3)) (
 Option.bind (ix c a) λo=>
 Option.bind (ix c a) λk=>
 Option.bind (ix d g.From) λp=>
 Option.bind (ix d g.From) λl=>
 Option.bind (HO N g k l) λm=>
 Option.bind (ix c a) λq=>
 Option.bind (ix c a) λs=>
 E8 N a (CM N p0_w j i d n) (upd c a m)) (
 E8 N a (CM N p0_w j i d n) c)) (
 some (i,j.2,c,d))
def CV (N:Nat) (p0_w:An) (c:(List (List Int))×(List Av)) (a:List (List Int)) (b:List Int):Option ((List (List Int))×(List Av)×(List Ax)×(List Int)):=
 CM N p0_w c a b N 0 p0_w.s.Gates
def CU (N:Nat) (p0_w:An) (i:(List (List Int))×(List Av)) (j:(List (List Int))→(List Int)→Option ((List (List Int))×(List Av)×(List Ax)×(List Int))):Nat→Int→(List (List Int))→(List Int)→Option ((List (List Int))×(List Av)×(List Ax)×(List Int))
 |0,_,_,_=>none
 |w+1,a,c,d=>
 cond (decide (a<(↑p0_w.b.Places.length:Int))) (
 Option.bind (ix c a) λo=>
 Option.bind (ix c a) λk=>
 Option.bind (ix i.1 a) λp=>
 Option.bind (ix i.1 a) λl=>
 Option.bind (GN N k l) λg=>
 Option.bind (ix c a) λq=>
 Option.bind (ix c a) λs=>
 Option.bind (ix (upd c a g) a) λt=>
 Option.bind (ix (upd c a g) a) λm=>
 Option.bind (Dd N m) λn=>
 Option.bind (ix d a) λu=>
 Option.bind (ix d a) λv=>
 CU N p0_w i j w (BM (a+1)) (upd c a g) (upd d a n)) (
 j c d)
def F9 (N:Nat) (p0_w:An):Option ((List (List Int))×(List Av)×(List Ax)×(List Int)):=
 Option.bind (J2 N p0_w.s.Queue p0_w.s.Hour (↑p0_w.b.Places.length:Int) (↑p0_w.b.Owners.length:Int)) λa=>
 CU N p0_w a (CV N p0_w a) N 0 p0_w.s.Own p0_w.peaks
def GI (N:Nat) (a:List Int):Option (List Int):=
 some a
def Ed (N:Nat) (a:(List Int)) (d:(List Int)→Option (List Int)):Nat→Int→(List Int)→Option (List Int)
 |0,_,_=>none
 |j+1,b,c=>
 cond (decide (b<(↑a.length:Int))) (
 Option.bind (ix a b) λg=>
 Option.bind (ix c b) λk=>
 Option.bind (ix c b) λi=>
 Option.bind (ix c b) λl=>
 Option.bind (ix c b) λm=>
 Ed N a d j (BM (b+1)) (upd c b (BM (i-g)))) (
 d c)
def Gs (N:Nat) (a:(List Int)) (b:(List Int)):Option (List Int):=
 chk (JF (↑a.length:Int) (↑a.length:Int) 8) <|
 Ed N b (GI N) N 0 (Mw (List.replicate ((↑a.length:Int):Int).toNat (0:Int)) a)
def Hg (N:Nat) (a:(List Int)) (b:List Int):Option ((List Int)×(List Int)):=
 Option.bind (Gs N a b) λc=>
 some (b,c)
def J4 (N:Nat) (b:(List Int)) (a:Int) (c:Int):Option ((List Int)×(List Int)):=
 chk (JF (↑b.length:Int) (↑b.length:Int) 8) <|
 Option.bind (Km N b a) λd=>
 cond (decide (0<(min c d))) (
 Option.bind (ix (List.replicate ((↑b.length:Int):Int).toNat (0:Int)) a) λg=>
 Option.bind (ix (List.replicate ((↑b.length:Int):Int).toNat (0:Int)) a) λi=>
 Hg N b (upd (List.replicate ((↑b.length:Int):Int).toNat (0:Int)) a (min c d))) (
 Hg N b (List.replicate ((↑b.length:Int):Int).toNat (0:Int)))
def CO (N:Nat) (c1_:FK) (a:(List Int)):Option ((List Int)×(List Int)):=
 Option.bind (J4 N a c1_.Owner c1_.Litres) λb=>
 some (b.1,b.2)
def Ce (N:Nat) (a:List AK):Option (List AK):=
 some a
def E5 (N:Nat) (a:Int) (b:(List AK)→Int→Option (List AK)) (c:List AK):Option (List AK):=
 b c (BM (a+1))
def Bw (N:Nat) (p0_w:An) (a:Int) (g:(List AK)→Option (List AK)):Nat→(List AK)→Int→Option (List AK)
 |0,_,_=>none
 |j+1,i,d=>
 cond (decide (d<(↑p0_w.in_.Takes.length:Int))) (
 Option.bind (ix p0_w.in_.Takes d) λc=>
 Option.bind (cond (decide (c.Place≠a)) (some true) (Option.bind (qZ N c.Owner (↑p0_w.b.Owners.length:Int)) λk=>
 some (!k))) λl=>
 cond (l||(decide (c.Litres≤0))) (
 E5 N d (Bw N p0_w a g j) i) (
 Option.bind (cond (decide (c.To≠(-1))) (Option.bind (qZ N c.To (↑p0_w.b.Places.length:Int)) λm=>
 Option.bind (cond (!m) (some true) (Option.bind (ix p0_w.b.Places c.To) λn=>
 Option.bind (ix p0_w.b.Places a) λo=>
 some (decide (n.Office≠o.Office)))) λp=>
 some p) (some false)) λq=>
 cond q (
 E5 N d (Bw N p0_w a g j) i) (
 chk (KR (i.length+1) 32) <|
 E5 N d (Bw N p0_w a g j) (i++([(⟨c.To,0,(-3),(λx=>CO N c x)⟩:AK)]:List AK))))) (
 g i)
def HB (N:Nat) (p0_w:An) (a:Int):Option (List AK):=
 Bw N p0_w a (Ce N) N ([]:List AK) 0
def Gd (N:Nat) (c:Int) (a:Int) (b:Int):Option Int:=
 Option.bind (En N c a b) λd=>
 cond (!d.2.2) (
 some 0) (
 some d.1)
def J5 (N:Nat) (b:A4) (a:Int) (c:Int):Option Int:=
 cond (decide (b.To=(-1))) (
 some a) (
 Option.bind (Gd N c b.BackNum b.BackDen) λd=>
 Option.bind (Ge N a d) λg=>
 some (max 0 g))
def Ko (N:Nat) (a:(List BT)) (b:Int):Option Int:=
 Option.bind (Eo N a) λc=>
 cond (!c) (
 some 0) (
 Option.bind (HQ N a b) λd=>
 some d.1)
def Hj (N:Nat):Option Int:=
 some 0
def Hh (N:Nat) (a:A4) (b:Int):Option Int:=
 Option.bind (Ge N b a.Crest) λd=>
 Option.bind (Gd N (max 0 d) a.Num a.Den) λc=>
 some c
def JS (N:Nat) (a:Bool) (b:Option Int):Option Int:=
 cond (!a) (
 some 0) (
 b)
def JR (N:Nat) (c:A4) (a:Bool) (b:Int) (d:Option Int):Option Int:=
 cond a (
 Option.bind (Gd N b c.Num c.Den) λg=>
 some g) (
 d)
def JQ (N:Nat) (b:A4) (a:Int):Option Int:=
 Option.bind (Gd N b.Num a b.Positions) λc=>
 some c
def JP (N:Nat) (a:A4) (c:Int) (g:(List BT)) (b:Int) (d:Int):Option Int:=
 Option.bind (J5 N a b d) λi=>
 Option.bind (Ko N g i) λj=>
 Option.bind (Gd N j c a.Positions) λk=>
 Option.bind (Ff N k a.Leak) λl=>
 some l
def J6 (N:Nat) (a:A4) (d:Int) (c:Bool) (i:(List BT)) (b:Int) (g:Int):Option Int:=
 cond (decide (a.Kind=0)) (
 JP N a d i b g) (
 cond (decide (a.Kind=2)) (
 JQ N a d) (
 cond (decide (a.Kind=3)) (
 JR N a c b (Hj N)) (
 cond (decide (a.Kind=5)) (
 JS N c (Hh N a b)) (
 cond (decide (a.Kind=1)) (
 Hh N a b) (
 Hj N)))))
def Kn (N:Nat) (b:A4) (c:Ax) (a:Int) (d:Int):Option Int:=
 Option.bind (J6 N b c.Pos c.Open b.Rate a d) λg=>
 some g
def Fu (N:Nat) (a:Int):Option Int:=
 some a
def EM (N:Nat) (c:Int) (a:(List Int)) (n:Int) (k:Int→(List Int)→(List Int)→(List Int)→Option ((List Int)×Bool)):Nat→Int→Int→(List Int)→(List Int)→(List Int)→Option ((List Int)×Bool)
 |0,_,_,_,_,_=>none
 |v+1,l,b,g,i,j=>
 cond (decide (b<(↑a.length:Int))) (
 Option.bind (ix a b) λm=>
 Option.bind (En N c m n) λd=>
 Option.bind (ix j b) λo=>
 Option.bind (ix j b) λp=>
 Option.bind (ix i b) λq=>
 Option.bind (ix i b) λs=>
 Option.bind (ix g b) λt=>
 Option.bind (ix g b) λu=>
 EM N c a n k v (BM (l-d.1)) (BM (b+1)) (upd g b b) (upd i b d.2.1) (upd j b d.1)) (
 k l g i j)
def EL (N:Nat) (c:List Int) (g:(List Int)→Option ((List Int)×Bool)):Nat→Int→(List Int)→Option ((List Int)×Bool)
 |0,_,_=>none
 |m+1,d,a=>
 cond (decide (d<(↑c.length:Int))) (
 Option.bind (ix c d) λb=>
 Option.bind (ix a b) λj=>
 Option.bind (ix a b) λi=>
 Option.bind (ix a b) λk=>
 Option.bind (ix a b) λl=>
 EL N c g m (BM (d+1)) (upd a b (BM (i+1)))) (
 g a)
def Fl (N:Nat) (a:List Int):Option ((List Int)×Bool):=
 some (a,true)
def EO (N:Nat) (c:Int) (d:List Int) (g:List Int) (i:List Int):Option ((List Int)×Bool):=
 Option.bind (Ph d g) λa=>
 Option.bind (iL a c) λb=>
 EL N b (Fl N) N 0 i
def EQ (N:Nat) (b:Int) (a:(List Int)) (c:Int):Option ((List Int)×Bool):=
 cond ((decide (b<0))||(decide (c<b))) (
 some (([]:List Int),false)) (
 chk (JF (↑a.length:Int) (↑a.length:Int) 8) <|
 cond (decide (c=0)) (
 some ((List.replicate ((↑a.length:Int):Int).toNat (0:Int)),true)) (
 chk (JF (↑a.length:Int) (↑a.length:Int) 8) <|
 chk (JF (↑a.length:Int) (↑a.length:Int) 8) <|
 EM N b a c (EO N) N b 0 (List.replicate ((↑a.length:Int):Int).toNat (0:Int)) (List.replicate ((↑a.length:Int):Int).toNat (0:Int)) (List.replicate ((↑a.length:Int):Int).toNat (0:Int))))
def EN (N:Nat) (a:(List Int)) (g:Int→Option ((List Int)×Bool)):Nat→Int→Int→Option ((List Int)×Bool)
 |0,_,_=>none
 |i+1,b,c=>
 cond (decide (c<(↑a.length:Int))) (
 Option.bind (ix a c) λd=>
 cond ((decide (d<0))||(decide ((BM (1125899906842624-b))<d))) (
 some (([]:List Int),false)) (
 EN N a g i (BM (b+d)) (BM (c+1)))) (
 g b)
def Ix (N:Nat) (b:Int) (a:(List Int)):Option ((List Int)×Bool):=
 cond (decide (64<(↑a.length:Int))) (
 some (([]:List Int),false)) (
 EN N a (EQ N b a) N 0 0)
def GA (N:Nat) (a:(List Int)) (b:List Int):Option ((List Int)×(List Int)):=
 Option.bind (Gs N a b) λc=>
 some (b,c)
def IX (N:Nat) (a:(List Int)→Option ((List Int)×(List Int))) (b:List Int):Option ((List Int)×(List Int)):=
 a b
def J3 (N:Nat) (a:(List Int)) (b:Int):Option ((List Int)×(List Int)):=
 chk (JF (↑a.length:Int) (↑a.length:Int) 8) <|
 Option.bind (cond ((decide (0<b))&&(decide ((↑a.length:Int)≤64))) (Option.bind (HI N a) λd=>
 some d) (some false)) λg=>
 cond g (
 Option.bind (Dd N a) λi=>
 Option.bind (Ix N (min b i) a) λc=>
 cond c.2 (
 IX N (GA N a) (Mw (List.replicate ((↑a.length:Int):Int).toNat (0:Int)) c.1)) (
 IX N (GA N a) (List.replicate ((↑a.length:Int):Int).toNat (0:Int)))) (
 GA N a (List.replicate ((↑a.length:Int):Int).toNat (0:Int)))
def Ab (N:Nat) (c1_:Int) (a:(List Int)):Option ((List Int)×(List Int)):=
 Option.bind (J3 N a c1_) λb=>
 some (b.1,b.2)
def JE (N:Nat) (c:Int) (a:Int) (b:Int):Option Int:=
 Option.bind (En N c a b) λd=>
 cond (!d.2.2) (
 some 0) (
 some d.1)
def Je (N:Nat) (a:A4) (b:Int) (c:Int):Option Int:=
 cond (decide (a.Kind≠4)) (
 some 0) (
 Option.bind (JE N b a.Num a.Den) λd=>
 Option.bind (JE N c a.BackNum a.BackDen) λg=>
 some (BM (d-g)))
def Ch (N:Nat) (a:List AK):Option (List AK):=
 some a
def F8 (N:Nat) (p0_w:An) (c:Int) (m:List AK) (b:Int) (a:A4) (g:(List AK)→Option (List AK)) (i:Int):Option (List AK):=
 Option.bind (ix p0_w.s.Gates b) λn=>
 Option.bind (ix p0_w.s.Gates b) λj=>
 Option.bind (ix p0_w.peaks c) λo=>
 Option.bind (ix p0_w.peaks c) λk=>
 Option.bind (Kn N a j k i) λl=>
 Option.bind (Fu N l) λd=>
 chk (KR (m.length+([(⟨a.To,a.Delay,b,(λx=>Ab N d x)⟩:AK)]:List AK).length) 32) <|
 g (m++([(⟨a.To,a.Delay,b,(λx=>Ab N d x)⟩:AK)]:List AK))
def C5 (N:Nat) (a:Int) (b:(List AK)→Int→Option (List AK)) (c:List AK):Option (List AK):=
 b c (BM (a+1))
def Be (N:Nat) (p0_w:An) (c:Int) (g:(List AK)→Option (List AK)):Nat→(List AK)→Int→Option (List AK)
 |0,_,_=>none
 |l+1,i,d=>
 cond (decide (d<(↑p0_w.b.Links.length:Int))) (
 Option.bind (ix p0_w.b.Links d) λa=>
 cond ((decide (a.From=c))&&(decide (a.Kind≠4))) (
 cond (decide (a.To≠(-1))) (
 Option.bind (ix p0_w.peaks a.To) λA=>
 Option.bind (ix p0_w.peaks a.To) λu=>
 F8 N p0_w c i d a (C5 N d (Be N p0_w c g l)) u) (
 F8 N p0_w c i d a (C5 N d (Be N p0_w c g l)) 0)) (
 cond (decide (a.From=c)) (
 Option.bind (ix p0_w.peaks c) λv=>
 Option.bind (ix p0_w.peaks c) λm=>
 Option.bind (ix p0_w.peaks a.To) λw=>
 Option.bind (ix p0_w.peaks a.To) λn=>
 Option.bind (Je N a m n) λo=>
 Option.bind (Fu N o) λj=>
 chk (KR (i.length+([(⟨a.To,a.Delay,d,(λx=>Ab N j x)⟩:AK)]:List AK).length) 32) <|
 C5 N d (Be N p0_w c g l) (i++([(⟨a.To,a.Delay,d,(λx=>Ab N j x)⟩:AK)]:List AK))) (
 cond ((decide (a.To=c))&&(decide (a.Kind=4))) (
 Option.bind (ix p0_w.peaks a.From) λy=>
 Option.bind (ix p0_w.peaks a.From) λp=>
 Option.bind (ix p0_w.peaks c) λz=>
 Option.bind (ix p0_w.peaks c) λq=>
 Option.bind (Je N a p q) λs=>
 Option.bind (Ge N 0 s) λt=>
 Option.bind (Fu N t) λk=>
 chk (KR (i.length+([(⟨a.From,a.Delay,d,(λx=>Ab N k x)⟩:AK)]:List AK).length) 32) <|
 C5 N d (Be N p0_w c g l) (i++([(⟨a.From,a.Delay,d,(λx=>Ab N k x)⟩:AK)]:List AK))) (
 C5 N d (Be N p0_w c g l) i)))) (
 g i)
def HG (N:Nat) (p0_w:An) (a:Int):Option (List AK):=
 Be N p0_w a (Ch N) N ([]:List AK) 0
def Bn (N:Nat) (a:List AK):Option (List AK):=
 some a
def Bz (N:Nat) (a:Int):Option (List AK):=
 cond (decide (a<0)) (
 none) (
 cond (decide (0<(BM (a-(BM (0-0)))))) (
 chk (decide (0<(BM (a-(BM (0-0)))))) <|
 chk (KR ((BM (a-(BM (0-0)))):Int).toNat 32) <|
 Bn N ([]:List AK)) (
 Bn N ([]:List AK)))
def BV (N:Nat) (a:(List (List AK))) (d:(List AK)→Option (List AK)):Nat→(List AK)→Int→Option (List AK)
 |0,_,_=>none
 |i+1,b,c=>
 cond (decide (c<(↑a.length:Int))) (
 Option.bind (ix a c) λg=>
 chk (KR (b.length+g.length) 32) <|
 BV N a d i (b++g) (BM (c+1))) (
 d b)
def CA (N:Nat) (a:List AK):Option (List AK):=
 some a
def Bh (N:Nat) (a:(List (List AK))) (c:Int):Option (List AK):=
 Option.bind (Bz N c) λb=>
 BV N a (CA N) N b 0
def BW (N:Nat) (a:(List (List AK))) (c:Int→Option (List AK)):Nat→Int→Int→Option (List AK)
 |0,_,_=>none
 |i+1,g,b=>
 cond (decide (b<(↑a.length:Int))) (
 Option.bind (ix a b) λd=>
 cond (decide ((BM (g+(↑d.length:Int)))<0)) (
 none) (
 BW N a c i (BM (g+(↑d.length:Int))) (BM (b+1)))) (
 c g)
def Bq (N:Nat) (a:(List (List AK))):Option (List AK):=
 BW N a (Bh N a) N 0 0
def DZ (N:Nat):Option Int:=
 some (-1)
def CS (N:Nat) (a:(List Int)) (b:(Int→Option Bool)) (c:Option Int):Nat→Int→Option Int
 |0,_=>none
 |j+1,d=>
 cond (decide (d<(↑a.length:Int))) (
 Option.bind (ix a d) λg=>
 Option.bind (b g) λi=>
 cond i (
 some d) (
 CS N a b c j (BM (d+1)))) (
 c)
def D9 (N:Nat) (a:(List Int)) (b:(Int→Option Bool)):Option Int:=
 CS N a b (DZ N) N 0
def Ec (N:Nat) (a:(List Int)) (b:(Int→Option Bool)):Option Bool:=
 Option.bind (D9 N a b) λc=>
 some (decide (0≤c))
def Gq (N:Nat) (a:Int):Option Bool:=
 some (decide (0<a))
def JN (N:Nat) (c:Int) (b:Int) (a:(List Int)):Option (List Av):=
 Option.bind (cond (decide (b<0)) (some true) (Option.bind (Ec N a (λx=>Gq N x)) λg=>
 some (!g))) λi=>
 cond i (
 some ([]:List Av)) (
 Option.bind (CE N a) λd=>
 chk (KR (([]:List Av).length+1) 40) <|
 some (([]:List Av)++([(⟨c,b,d⟩:Av)]:List Av)))
def Fk (N:Nat) (p0_w:An) (a:Int) (b:AK):Option ((List (List Int))×(List Int)×(List Ah)×(List Av)):=
 Option.bind (ix p0_w.s.Own a) λm=>
 Option.bind (ix p0_w.s.Own a) λj=>
 Option.bind (b.take j) λc=>
 Option.bind (ix p0_w.s.Own a) λk=>
 Option.bind (ix p0_w.s.Own a) λl=>
 Option.bind (Dd N c.1) λg=>
 cond (decide (g≤0)) (
 some ((upd p0_w.s.Own a c.2),p0_w.s.Out,p0_w.moves,p0_w.sent)) (
 chk (KR (p0_w.moves.length+([(⟨p0_w.s.Hour,a,b.to_,b.way,c.1⟩:Ah)]:List Ah).length) 56) <|
 cond (decide (b.to_=(-1))) (
 Option.bind (GN N p0_w.s.Out c.1) λi=>
 some ((upd p0_w.s.Own a c.2),i,(p0_w.moves++([(⟨p0_w.s.Hour,a,b.to_,b.way,c.1⟩:Ah)]:List Ah)),p0_w.sent)) (
 Option.bind (JN N (BM ((BM (p0_w.s.Hour+1))+b.delay)) b.to_ c.1) λd=>
 chk (KR (p0_w.sent.length+d.length) 40) <|
 some ((upd p0_w.s.Own a c.2),p0_w.s.Out,(p0_w.moves++([(⟨p0_w.s.Hour,a,b.to_,b.way,c.1⟩:Ah)]:List Ah)),(p0_w.sent++d))))
def Hf (N:Nat) (a:Dl) (b:Int×Int×Bool) (c:Int):Option (Int×Int):=
 cond (decide ((BM (b.2.1+c))<a.Den)) (
 some (b.1,(BM (b.2.1+c)))) (
 some ((BM (b.1+1)),(BM ((BM (b.2.1+c))-a.Den))))
def Iw (N:Nat) (a:Dl) (d:Int) (b:Int):Option (Int×Int):=
 Option.bind (En N d a.Num a.Den) λc=>
 cond (!c.2.2) (
 some (0,0)) (
 cond ((decide (0≤b))&&(decide (b<a.Den))) (
 Hf N a c b) (
 Hf N a c 0))
def E6 (N:Nat) (p0_w:An) (d:Int) (o:Dl) (g:List (List Int)) (i:List Int) (j:List Ah) (k:List Av) (l:Int×Int) (n:(List (List Int))→(List Int)→(List Ah)→(List Av)→(List Int)→Option ((List (List Int))×(List Int)×(List Int)×(List Ah)×(List Av))) (c:List Int):Option ((List (List Int))×(List Int)×(List Int)×(List Ah)×(List Av)):=
 Option.bind (Fu N l.1) λm=>
 Option.bind (Fk N (⟨p0_w.b,p0_w.in_,(⟨p0_w.s.Hour,g,c,p0_w.s.Queue,p0_w.s.Gates,p0_w.s.In,i⟩:Am),j,p0_w.peaks,k⟩:An) d (⟨o.Down,o.Delay,(-1),(λx=>Ab N m x)⟩:AK)) λa=>
 n a.1 a.2.1 a.2.2.1 a.2.2.2 c
def C4 (N:Nat) (p0_w:An) (d:Int) (o:Dl) (a:List (List Int)) (i:List Int) (j:List Ah) (k:List Av) (g:List Int):Option ((List (List Int))×(List Int)×(List Int)×(List Ah)×(List Av)):=
 Option.bind (ix a d) λp=>
 Option.bind (ix a d) λm=>
 Option.bind (Dd N m) λl=>
 cond (decide (0<(BM (l-o.Cap)))) (
 Option.bind (Fu N (BM (l-o.Cap))) λn=>
 Option.bind (Fk N (⟨p0_w.b,p0_w.in_,(⟨p0_w.s.Hour,a,g,p0_w.s.Queue,p0_w.s.Gates,p0_w.s.In,i⟩:Am),j,p0_w.peaks,k⟩:An) d (⟨o.Down,o.Delay,(-2),(λx=>Ab N n x)⟩:AK)) λc=>
 some (c.1,g,c.2.1,c.2.2.1,c.2.2.2)) (
 some (a,g,i,j,k))
def E7 (N:Nat) (p0_w:An) (a:Int) (j:Dl) (b:List (List Int)) (d:List Int) (g:List Ah) (i:List Av):Option ((List (List Int))×(List Int)×(List Int)×(List Ah)×(List Av)):=
 cond (decide (j.Den≠0)) (
 Option.bind (ix p0_w.peaks a) λo=>
 Option.bind (ix p0_w.peaks a) λk=>
 Option.bind (ix p0_w.s.Rem a) λp=>
 Option.bind (ix p0_w.s.Rem a) λl=>
 Option.bind (Iw N j k l) λc=>
 Option.bind (ix p0_w.s.Rem a) λq=>
 Option.bind (ix p0_w.s.Rem a) λt=>
 Option.bind (ix b a) λu=>
 Option.bind (ix b a) λm=>
 Option.bind (Dd N m) λn=>
 cond (decide (c.1≤n)) (
 Option.bind (ix (upd p0_w.s.Rem a 0) a) λv=>
 Option.bind (ix (upd p0_w.s.Rem a 0) a) λw=>
 E6 N p0_w a j b d g i c (C4 N p0_w a j) (upd (upd p0_w.s.Rem a 0) a c.2)) (
 E6 N p0_w a j b d g i c (C4 N p0_w a j) (upd p0_w.s.Rem a 0))) (
 C4 N p0_w a j b d g i p0_w.s.Rem)
def C3 (N:Nat) (p0_w:An) (g:Int) (d:(List AK)) (m:(List (List Int))→(List Int)→(List Ah)→(List Av)→Option ((List (List Int))×(List Int)×(List Int)×(List Ah)×(List Av))):Nat→Int→(List (List Int))→(List Int)→(List Ah)→(List Av)→Option ((List (List Int))×(List Int)×(List Int)×(List Ah)×(List Av))
 |0,_,_,_,_,_=>none
 |p+1,a,i,j,k,l=>
 cond (decide (a<(↑d.length:Int))) (
 Option.bind (ix d a) λo=>
 Option.bind (ix d a) λn=>
 Option.bind (Fk N (⟨p0_w.b,p0_w.in_,(⟨p0_w.s.Hour,i,p0_w.s.Rem,p0_w.s.Queue,p0_w.s.Gates,p0_w.s.In,j⟩:Am),k,p0_w.peaks,l⟩:An) g n) λc=>
 C3 N p0_w g d m p (BM (a+1)) c.1 c.2.1 c.2.2.1 c.2.2.2) (
 m i j k l)
def HE (N:Nat) (p0_w:An) (a:Int):Option ((List (List Int))×(List Int)×(List Int)×(List Ah)×(List Av)):=
 Option.bind (ix p0_w.b.Places a) λi=>
 Option.bind (HB N p0_w a) λc=>
 Option.bind (HG N p0_w a) λd=>
 Option.bind (Bq N ([c,d]:List (List AK))) λg=>
 C3 N p0_w a g (E7 N p0_w a i) N 0 p0_w.s.Own p0_w.s.Out p0_w.moves p0_w.sent
def FU (N:Nat) (k:Am) (c:(List (List Int))×(List Int)×(List Ah)) (a:(List (List Int))×(List Av)×(List Ax)×(List Int)) (d:List (List Int)) (g:List Int) (i:List Int) (j:List Ah) (b:List Av):Option (Am×(List Ah)×(List Int)):=
 chk (KR (a.2.1.length+b.length) 40) <|
 some ((⟨(BM (k.Hour+1)),d,g,(a.2.1++b),a.2.2.1,c.2.1,i⟩:Am),j,a.2.2.2)
def FT (N:Nat) (c:AW) (d:Cy) (o:Am) (i:(List (List Int))×(List Int)×(List Ah)) (b:(List (List Int))×(List Av)×(List Ax)×(List Int)) (p:(List (List Int))→(List Int)→(List Int)→(List Ah)→(List Av)→Option (Am×(List Ah)×(List Int))):Nat→Int→(List (List Int))→(List Int)→(List Int)→(List Ah)→(List Av)→Option (Am×(List Ah)×(List Int))
 |0,_,_,_,_,_,_=>none
 |q+1,g,j,k,l,m,n=>
 cond (decide (g<(↑c.Places.length:Int))) (
 Option.bind (HE N (⟨c,d,(⟨o.Hour,j,k,b.2.1,b.2.2.1,i.2.1,l⟩:Am),m,b.2.2.2,n⟩:An) g) λa=>
 FT N c d o i b p q (BM (g+1)) a.1 a.2.1 a.2.2.1 a.2.2.2.1 a.2.2.2.2) (
 p j k l m n)
def IU (N:Nat) (a:AW) (j:Am) (c:Cy):Option (Am×(List Ah)×(List Int)):=
 Option.bind (Iv N j) λb=>
 chk (JF (↑a.Places.length:Int) (↑a.Places.length:Int) 8) <|
 Option.bind (HD N (⟨a,c,b,([]:List Ah),(List.replicate ((↑a.Places.length:Int):Int).toNat (0:Int)),([]:List Av)⟩:An)) λg=>
 Option.bind (GH N (⟨a,c,({ b with Gates:=g}:Am),([]:List Ah),(List.replicate ((↑a.Places.length:Int):Int).toNat (0:Int)),([]:List Av)⟩:An)) λk=>
 Option.bind (Hc N (⟨a,c,(⟨b.Hour,k,b.Rem,b.Queue,g,b.In,b.Out⟩:Am),([]:List Ah),(List.replicate ((↑a.Places.length:Int):Int).toNat (0:Int)),([]:List Av)⟩:An)) λd=>
 Option.bind (F9 N (⟨a,c,(⟨b.Hour,d.1,b.Rem,b.Queue,g,d.2.1,b.Out⟩:Am),d.2.2,(List.replicate ((↑a.Places.length:Int):Int).toNat (0:Int)),([]:List Av)⟩:An)) λi=>
 FT N a c b d i (FU N b d i) N 0 i.1 b.Rem b.Out d.2.2 ([]:List Av)
def Gw (N:Nat):Option Bool:=
 some true
def Fj (N:Nat) (a:(List Int)) (b:(List Int)) (c:Option Bool):Nat→Int→Option Bool
 |0,_=>none
 |j+1,d=>
 cond (decide (d<(↑a.length:Int))) (
 Option.bind (ix a d) λg=>
 Option.bind (ix b d) λi=>
 cond (decide (g≠i)) (
 some false) (
 Fj N a b c j (BM (d+1)))) (
 c)
def Cj (N:Nat) (a:(List Int)) (b:(List Int)):Option Bool:=
 cond (decide ((↑a.length:Int)≠(↑b.length:Int))) (
 some false) (
 Fj N a b (Gw N) N 0)
def HH (N:Nat) (a:(List Int)) (c1_:(List Int)):Nat→Int→(List Int)→Option (List Int)
 |0,_,_=>none
 |j+1,b,c=>
 cond (decide (b<(min (↑c1_.length:Int) (↑a.length:Int)))) (
 Option.bind (ix c b) λk=>
 Option.bind (ix c b) λd=>
 Option.bind (ix a b) λg=>
 Option.bind (Ff N d g) λi=>
 Option.bind (ix c b) λl=>
 Option.bind (ix c b) λm=>
 HH N a c1_ j (BM (b+1)) (upd c b i)) (
 some c)
def JM (N:Nat) (c1_:(List Int)) (a:(List Int)):Option (List Int):=
 HH N a c1_ N 0 c1_
def H8 (N:Nat) (a:Am) (c:(List Int)→Option (List Int)):Nat→Int→(List Int)→Option (List Int)
 |0,_,_=>none
 |j+1,b,d=>
 cond (decide (b<(↑a.Queue.length:Int))) (
 Option.bind (ix a.Queue b) λi=>
 Option.bind (JM N d i.Part) λg=>
 H8 N a c j (BM (b+1)) g) (
 c d)
def I5 (N:Nat) (a:List Int):Option (List Int):=
 some a
def I6 (N:Nat) (a:Am) (b:List Int):Option (List Int):=
 H8 N a (I5 N) N 0 b
def H9 (N:Nat) (a:Am) (c:(List Int)→Option (List Int)):Nat→Int→(List Int)→Option (List Int)
 |0,_,_=>none
 |j+1,b,d=>
 cond (decide (b<(↑a.Own.length:Int))) (
 Option.bind (ix a.Own b) λg=>
 Option.bind (JM N d g) λi=>
 H9 N a c j (BM (b+1)) i) (
 c d)
def Lj (N:Nat) (a:Am):Option (List Int):=
 chk (JF (↑a.In.length:Int) (↑a.In.length:Int) 8) <|
 H9 N a (I6 N a) N 0 (List.replicate ((↑a.In.length:Int):Int).toNat (0:Int))
def DG (N:Nat):Option Bool:=
 some true
def CW (N:Nat) (a:(List (List Int))) (b:(List (List Int))) (c:(((List Int)×(List Int))→Option Bool)) (g:Option Bool):Nat→Int→Option Bool
 |0,_=>none
 |l+1,d=>
 cond (decide (d<(↑a.length:Int))) (
 Option.bind (ix a d) λi=>
 Option.bind (ix b d) λj=>
 Option.bind (c (i,j)) λk=>
 cond (!k) (
 some false) (
 CW N a b c g l (BM (d+1)))) (
 g)
def E2 (N:Nat) (a:(List (List Int))) (b:(List (List Int))) (c:(((List Int)×(List Int))→Option Bool)):Option Bool:=
 cond (decide ((↑a.length:Int)≠(↑b.length:Int))) (
 some false) (
 CW N a b c (DG N) N 0)
def Fh (N:Nat):Option Bool:=
 some true
def EW (N:Nat) (a:(List Int)) (b:(List Int)) (c:Option Bool):Nat→Int→Option Bool
 |0,_=>none
 |j+1,d=>
 cond (decide (d<(↑a.length:Int))) (
 Option.bind (ix a d) λg=>
 Option.bind (ix b d) λi=>
 cond (decide (g≠i)) (
 some false) (
 EW N a b c j (BM (d+1)))) (
 c)
def C6 (N:Nat) (a:(List Int)) (b:(List Int)):Option Bool:=
 cond (decide ((↑a.length:Int)≠(↑b.length:Int))) (
 some false) (
 EW N a b (Fh N) N 0)
def BB (N:Nat):Option Bool:=
 some true
def Az (N:Nat) (a:(List Av)) (b:(List Av)) (c:((Av×Av)→Option Bool)) (g:Option Bool):Nat→Int→Option Bool
 |0,_=>none
 |l+1,d=>
 cond (decide (d<(↑a.length:Int))) (
 Option.bind (ix a d) λi=>
 Option.bind (ix b d) λj=>
 Option.bind (c (i,j)) λk=>
 cond (!k) (
 some false) (
 Az N a b c g l (BM (d+1)))) (
 g)
def Ba (N:Nat) (a:(List Av)) (b:(List Av)) (c:((Av×Av)→Option Bool)):Option Bool:=
 cond (decide ((↑a.length:Int)≠(↑b.length:Int))) (
 some false) (
 Az N a b c (BB N) N 0)
def CJ (N:Nat):Option Bool:=
 some true
def Bp (N:Nat) (a:(List Ax)) (b:(List Ax)) (c:Option Bool):Nat→Int→Option Bool
 |0,_=>none
 |j+1,d=>
 cond (decide (d<(↑a.length:Int))) (
 Option.bind (ix a d) λg=>
 Option.bind (ix b d) λi=>
 cond (!(XD g.v i.v)) (
 some false) (
 Bp N a b c j (BM (d+1)))) (
 c)
def DF (N:Nat) (a:(List Ax)) (b:(List Ax)):Option Bool:=
 cond (decide ((↑a.length:Int)≠(↑b.length:Int))) (
 some false) (
 Bp N a b (CJ N) N 0)
def I4 (N:Nat) (a:Av) (b:Av):Option Bool:=
 Option.bind (cond ((decide (a.At=b.At))&&(decide (a.To=b.To))) (Option.bind (C6 N a.Part b.Part) λc=>
 some c) (some false)) λd=>
 some d
def K4 (N:Nat) (a:Am) (b:Am):Option Bool:=
 Option.bind (cond (decide (a.Hour=b.Hour)) (Option.bind (E2 N a.Own b.Own (λx=>C6 N x.1 x.2)) λc=>
 some c) (some false)) λd=>
 Option.bind (cond d (Option.bind (C6 N a.Rem b.Rem) λg=>
 some g) (some false)) λi=>
 Option.bind (cond i (Option.bind (Ba N a.Queue b.Queue (λx=>I4 N x.1 x.2)) λj=>
 some j) (some false)) λk=>
 Option.bind (cond k (Option.bind (DF N a.Gates b.Gates) λl=>
 some l) (some false)) λm=>
 Option.bind (cond m (Option.bind (C6 N a.In b.In) λn=>
 some n) (some false)) λo=>
 Option.bind (cond o (Option.bind (C6 N a.Out b.Out) λp=>
 some p) (some false)) λq=>
 some q
def GS (N:Nat):Option Bool:=
 Option.bind (IZ N) λo=>
 Option.bind (Lk N o 5) λc=>
 Option.bind (IG N o) λaa=>
 Option.bind (cond (!aa) (some true) (Option.bind (Hx N o c) λp=>
 some (!p))) λab=>
 cond (ab||(decide ((↑c.Own.length:Int)≠1))) (
 some false) (
 Option.bind (IU N o c (⟨[],[],[],[],[]⟩:Cy)) λa=>
 Option.bind (IU N o c (⟨[],[],[],([(⟨0,1,60,(-1)⟩:FK)]:List FK),[]⟩:Cy)) λb=>
 cond ((((decide ((↑a.2.1.length:Int)≠2))||(decide ((↑b.2.1.length:Int)≠2)))||(decide ((↑a.1.Own.length:Int)≠1)))||(decide ((↑b.1.Own.length:Int)≠1))) (
 some false) (
 Option.bind (ix a.2.1 0) λac=>
 Option.bind (ix a.2.1 0) λq=>
 Option.bind (cond (decide (q.Way=(-1))) (Option.bind (ix a.2.1 0) λad=>
 Option.bind (ix a.2.1 0) λs=>
 Option.bind (Cj N s.Part ([10,5]:List Int)) λt=>
 some t) (some false)) λu=>
 Option.bind (cond u (Option.bind (ix a.2.1 1) λae=>
 Option.bind (ix a.2.1 1) λv=>
 some (decide (v.Way=(-2)))) (some false)) λw=>
 Option.bind (cond w (Option.bind (ix a.2.1 1) λaf=>
 Option.bind (ix a.2.1 1) λx=>
 Option.bind (Cj N x.Part ([10,5]:List Int)) λy=>
 some y) (some false)) λz=>
 Option.bind (cond z (Option.bind (Cj N a.2.2 ([150]:List Int)) λA=>
 some A) (some false)) λB=>
 Option.bind (ix a.1.Own 0) λC=>
 Option.bind (Cj N C ([80,40]:List Int)) λD=>
 Option.bind (cond D (Option.bind (Cj N a.1.Out ([20,10]:List Int)) λF=>
 some F) (some false)) λG=>
 Option.bind (cond G (some (decide (a.1.Hour=6))) (some false)) λH=>
 Option.bind (cond H (Option.bind (Lj N a.1) λI=>
 Option.bind (Cj N I ([80,40]:List Int)) λJ=>
 some J) (some false)) λK=>
 Option.bind (ix b.2.1 0) λag=>
 Option.bind (ix b.2.1 0) λM=>
 Option.bind (cond (decide (M.Way=(-3))) (Option.bind (ix b.2.1 0) λah=>
 Option.bind (ix b.2.1 0) λQ=>
 Option.bind (Cj N Q.Part ([0,50]:List Int)) λU=>
 some U) (some false)) λV=>
 Option.bind (cond V (Option.bind (ix b.2.1 1) λai=>
 Option.bind (ix b.2.1 1) λW=>
 Option.bind (Cj N W.Part ([15,0]:List Int)) λX=>
 some X) (some false)) λY=>
 Option.bind (cond Y (Option.bind (ix b.1.Own 0) λZ=>
 Option.bind (Cj N Z ([85,0]:List Int)) λd=>
 some d) (some false)) λg=>
 Option.bind (cond ((B&&K)&&g) (Option.bind (K4 N c c) λi=>
 some i) (some false)) λj=>
 Option.bind (cond j (Option.bind (K4 N c a.1) λk=>
 some (!k)) (some false)) λl=>
 Option.bind (cond l (Option.bind (Hx N o a.1) λm=>
 some m) (some false)) λn=>
 some n))
def qQ (N:Nat) (b:AW) (c:Am) (a:Cy):Option Bool:=
 cond ((((decide (6<(↑b.Places.length:Int)))||(decide (6<(↑b.Links.length:Int))))||(decide (4<(↑b.Owners.length:Int))))||(decide (12<(↑c.Queue.length:Int)))) (
 some false) (
 some (((((decide ((↑a.Rain.length:Int)≤8))&&(decide ((↑a.Faults.length:Int)≤8)))&&(decide ((↑a.Cmds.length:Int)≤8)))&&(decide ((↑a.Takes.length:Int)≤8)))&&(decide ((↑a.Swaps.length:Int)≤8))))
def Hz (N:Nat) (a:AW) (b:Am) (c:Cy):Option Bool:=
 Option.bind (qQ N a b c) λd=>
 Option.bind (cond d (Option.bind (IG N a) λg=>
 some g) (some false)) λi=>
 Option.bind (cond i (Option.bind (Hx N a b) λj=>
 some j) (some false)) λk=>
 some k
def De (N:Nat) (a:Int):Option Int:=
 some a
def ER (N:Nat) (a:Int) (b:Int→Int→Option Int) (c:Int):Option Int:=
 b c (BM (a+1))
def CF (N:Nat) (c:AW) (b:Cy) (d:Int) (i:Int) (a:Int) (k:Int→Option Int):Nat→Int→Int→Option Int
 |0,_,_=>none
 |m+1,l,j=>
 cond (decide (j<(↑b.Takes.length:Int))) (
 Option.bind (ix b.Takes j) λg=>
 cond (((((decide (g.Place≠d))||(decide (g.Owner≠i)))||(decide (g.Litres≤0)))||(decide (g.To<(-1))))||(decide ((↑c.Places.length:Int)≤g.To))) (
 ER N j (CF N c b d i a k m) l) (
 Option.bind (cond (decide (g.To=(-1))) (some true) (Option.bind (ix c.Places g.To) λn=>
 Option.bind (ix c.Places d) λo=>
 some (decide (n.Office=o.Office)))) λp=>
 cond p (
 ER N j (CF N c b d i a k m) (min a (BM (l+(min g.Litres a))))) (
 ER N j (CF N c b d i a k m) l))) (
 k l)
def GT (N:Nat) (c:AW) (b:Cy) (d:Int) (g:Int) (a:Int):Option Int:=
 CF N c b d g a (De N) N 0 0
def D3 (N:Nat) (a:Int) (b:Int→Int→Option Bool) (c:Int):Option Bool:=
 b c (BM (a+1))
def Bi (N:Nat) (c:Am×(List Ah)×(List Int)) (a:Int) (d:Int→Option Bool):Nat→Int→Int→Option Bool
 |0,_,_=>none
 |i+1,g,b=>
 Option.bind (ix c.2.1 a) λm=>
 Option.bind (ix c.2.1 a) λj=>
 cond (decide (b<(↑j.Part.length:Int))) (
 Option.bind (ix c.2.1 a) λn=>
 Option.bind (ix c.2.1 a) λk=>
 Option.bind (ix k.Part b) λl=>
 cond (decide (0<l)) (
 D3 N b (Bi N c a d i) (BM (g+1))) (
 D3 N b (Bi N c a d i) g)) (
 d g)
def DH (N:Nat) (b:Am×(List Ah)×(List Int)) (a:Int) (c:Int→Option Bool) (d:Int):Option Bool:=
 Option.bind (ix b.2.1 a) λi=>
 Option.bind (ix b.2.1 a) λg=>
 cond ((decide (g.Way=(-3)))&&(decide (d≠1))) (
 some false) (
 c (BM (a+1)))
def Bj (N:Nat) (b:Am×(List Ah)×(List Int)) (c:Option Bool):Nat→Int→Option Bool
 |0,_=>none
 |d+1,a=>
 cond (decide (a<(↑b.2.1.length:Int))) (
 Bi N b a (DH N b a (Bj N b c d)) N 0 0) (
 c)
def CB (N:Nat) (a:Bool):Option Bool:=
 some a
def Aq (N:Nat) (a:Bool) (b:Am×(List Ah)×(List Int)):Option Bool:=
 Bj N b (CB N a) N 0
def EC (N:Nat) (a:Int) (c:Int→Int→Option Bool) (b:Int):Option Bool:=
 c b (BM (a+1))
def Bd (N:Nat) (a:Am) (g:Int) (c:Int) (i:Int→Option Bool):Nat→Int→Int→Option Bool
 |0,_,_=>none
 |o+1,d,b=>
 cond (decide (b<(↑a.Queue.length:Int))) (
 Option.bind (ix a.Queue b) λj=>
 Option.bind (cond (decide (j.To=g)) (Option.bind (ix a.Queue b) λk=>
 some (decide (k.At≤a.Hour))) (some false)) λl=>
 cond l (
 Option.bind (ix a.Queue b) λm=>
 Option.bind (ix m.Part c) λn=>
 EC N b (Bd N a g c i o) (BM (d+n))) (
 EC N b (Bd N a g c i o) d)) (
 i d)
def D4 (N:Nat) (b:Am×(List Ah)×(List Int)) (o:Int) (g:Int) (c:Int) (a:Int) (i:Int→Int→Option Bool) (d:Int):Option Bool:=
 Option.bind (ix b.2.1 a) λp=>
 Option.bind (ix b.2.1 a) λj=>
 Option.bind (cond (decide (j.From=o)) (Option.bind (ix b.2.1 a) λq=>
 Option.bind (ix b.2.1 a) λk=>
 some (decide (k.Way=(-3)))) (some false)) λl=>
 cond l (
 Option.bind (ix b.2.1 a) λs=>
 Option.bind (ix b.2.1 a) λm=>
 Option.bind (ix m.Part g) λn=>
 i d (BM (c+n))) (
 i d c)
def DU (N:Nat) (a:Int) (d:Int→Int→Int→Option Bool) (b:Int) (c:Int):Option Bool:=
 d b c (BM (a+1))
def Bc (N:Nat) (b:Am×(List Ah)×(List Int)) (d:Int) (c:Int) (j:Int→Int→Option Bool):Nat→Int→Int→Int→Option Bool
 |0,_,_,_=>none
 |p+1,g,i,a=>
 cond (decide (a<(↑b.2.1.length:Int))) (
 Option.bind (ix b.2.1 a) λq=>
 Option.bind (ix b.2.1 a) λk=>
 Option.bind (cond (decide (k.To=d)) (Option.bind (ix b.2.1 a) λs=>
 Option.bind (ix b.2.1 a) λl=>
 some (decide (l.Way=(-4)))) (some false)) λm=>
 cond m (
 Option.bind (ix b.2.1 a) λt=>
 Option.bind (ix b.2.1 a) λn=>
 Option.bind (ix n.Part c) λo=>
 D4 N b d c i a (DU N a (Bc N b d c j p)) (BM (g+o))) (
 D4 N b d c i a (DU N a (Bc N b d c j p)) g)) (
 j g i)
def Ck (N:Nat) (d:AW) (c:Cy) (j:Int) (a:Int) (k:Int→Option Bool) (b:Int) (g:Int):Option Bool:=
 Option.bind (GT N d c j a b) λi=>
 cond (decide (g≠(min b i))) (
 some false) (
 k (BM (a+1)))
def Cm (N:Nat) (c:AW) (b:Cy) (i:Am×(List Ah)×(List Int)) (d:Int) (a:Int) (j:Int→Option Bool) (g:Int):Option Bool:=
 Bc N i d a (Ck N c b d a j) N g 0 0
def BC (N:Nat) (b:AW) (c:Am) (d:Cy) (i:Am×(List Ah)×(List Int)) (g:Int) (j:Option Bool):Nat→Int→Option Bool
 |0,_=>none
 |m+1,a=>
 cond (decide (a<(↑b.Owners.length:Int))) (
 Option.bind (ix c.Own g) λk=>
 Option.bind (ix k a) λl=>
 Bd N c g a (Cm N b d i g a (BC N b c d i g j m)) N l 0) (
 j)
def BD (N:Nat) (a:Int) (b:Int→Option Bool):Option Bool:=
 b (BM (a+1))
def Ap (N:Nat) (a:AW) (c:Am) (b:Cy) (g:Am×(List Ah)×(List Int)) (i:Option Bool):Nat→Int→Option Bool
 |0,_=>none
 |j+1,d=>
 cond (decide (d<(↑a.Places.length:Int))) (
 BC N a c b g d (BD N d (Ap N a c b g i j)) N 0) (
 i)
def FH (N:Nat) (b:AW) (c:Am) (a:Cy):Option Bool:=
 Option.bind (GS N) λd=>
 Option.bind (Hz N b c a) λi=>
 cond ((!i)||(decide (0<(↑a.Swaps.length:Int)))) (
 some d) (
 Option.bind (IU N b c a) λg=>
 Ap N b c a g (Aq N d g) N 0)
end Go.Proofs.YtblcgjadhemlbaaGreat
