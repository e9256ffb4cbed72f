import Derived.Test.YtabonambpbofgaaGreatNReps
import Derived.Test.YtabonambpbofgaaGreatNInst
import Derived.Test.YtabonambpbofgaaGreatNSortD
namespace Go.Proofs.YtabonambpbofgaaGreat
set_option linter.all false
open Go.RowKit
def Kj (N:Nat):Option AF:=
 some (⟨(ByteArray.mk #[98]),([(ByteArray.mk #[111])]:List ByteArray),0,Pn,[],[],[],[],[],([0,0,0]:List Int),0⟩:AF)
def BO (N:Nat) (a:(List Int)):Option (List Int):=
 chk (HQ (([]:List Int).length+a.length) 8) <|
 some (([]:List Int)++a)
def Ky (N:Nat) (a:AF) (b:Int) (c:List (List Int)):Option AI:=
 some (⟨b,c,(List.replicate ((↑a.A.length:Int):Int).toNat (0:Int)),[],(List.replicate ((↑a.C.length:Int):Int).toNat ((⟨0,0,false,false⟩:A3):A3)),(List.replicate ((↑a.J.length:Int):Int).toNat (0:Int)),(List.replicate ((↑a.J.length:Int):Int).toNat (0:Int))⟩:AI)
def J8 (N:Nat) (c:AF) (d:(List (List Int))→Option AI):Nat→Int→(List (List Int))→Option AI
 |0,_,_=>none
 |l+1,a,b=>
 cond (decide (a<(↑c.A.length:Int))) (
 (ix c.A a).bind λg=>
 (BO N g.An).bind λi=>
 (ix b a).bind λj=>
 (ix b a).bind λk=>
 J8 N c d l (BT (a+1)) (upd b a i)) (
 d b)
def OJ (N:Nat) (a:AF) (b:Int):Option AI:=
 chk (LU (↑a.A.length:Int) (↑a.A.length:Int) 24) <|
 chk (LU (↑a.A.length:Int) (↑a.A.length:Int) 8) <|
 chk (LU (↑a.C.length:Int) (↑a.C.length:Int) 24) <|
 chk (LU (↑a.J.length:Int) (↑a.J.length:Int) 8) <|
 chk (LU (↑a.J.length:Int) (↑a.J.length:Int) 8) <|
 J8 N a (Ky N a b) N 0 (List.replicate ((↑a.A.length:Int):Int).toNat ([]:(List Int)))
def DE (N:Nat) (c:Int) (b:Int) (a:Int):Option Bool:=
 some ((decide (b≤c))&&(decide (c≤a)))
def C2 (N:Nat) (a:Int):Option Bool:=
 (DE N a 0 1125899906842624).bind λb=>
 some b
def E6 (N:Nat) (a:AF) (c:Option Bool):Nat→Int→Option Bool
 |0,_=>none
 |i+1,b=>
 cond (decide (b<(↑a.Aj.length:Int))) (
 (ix a.Aj b).bind λd=>
 (C2 N d).bind λg=>
 cond (!g) (
 some false) (
 E6 N a c i (BT (b+1)))) (
 c)
def HL (N:Nat):Option Bool:=
 some true
def E8 (N:Nat) (a:AF):Option Bool:=
 E6 N a (HL N) N 0
def E7 (N:Nat) (a:AF) (d:Option Bool):Nat→Int→Option Bool
 |0,_=>none
 |g+1,c=>
 cond (decide (c<(↑a.F.size:Int))) (
 (Ys a.F c).bind λb=>
 cond ((((decide (b<32))||(decide (126<b)))||(decide (b=34)))||(decide (b=92))) (
 some false) (
 E7 N a d g (BT (c+1)))) (
 d)
def IB (N:Nat) (a:AF):Option Bool:=
 (cond (decide (500<(↑a.F.size:Int))) (some true) ((DE N (↑a.J.length:Int) 1 16).bind λb=>
 some (!b))).bind λc=>
 (cond c (some true) ((DE N a.K 0 64).bind λd=>
 some (!d))).bind λg=>
 (cond g (some true) ((DE N (↑a.A.length:Int) 1 64).bind λi=>
 some (!i))).bind λj=>
 (cond ((((((j||(decide (96<(↑a.C.length:Int))))||(decide (40<(↑a.Af.length:Int))))||(decide (128<(↑a.Ah.length:Int))))||(decide (128<(↑a.Ai.length:Int))))||(decide (40<(↑a.Ak.length:Int))))||(decide ((↑a.Aj.length:Int)≠3))) (some true) ((DE N a.L 0 1099511627776).bind λk=>
 some (!k))).bind λl=>
 cond l (
 some false) (
 E7 N a (E8 N a) N 0)
def IC (N:Nat):Option Bool:=
 some true
def Gj (N:Nat) (a:ByteArray) (d:Option Bool):Nat→Int→Option Bool
 |0,_=>none
 |g+1,c=>
 cond (decide (c<(↑a.size:Int))) (
 (Ys a c).bind λb=>
 cond ((((decide (b<97))||(decide (122<b)))&&((decide (b<48))||(decide (57<b))))&&(decide (b≠95))) (
 some false) (
 Gj N a d g (BT (c+1)))) (
 d)
def KT (N:Nat) (a:ByteArray):Option Bool:=
 (cond (((decide ((↑a.size:Int)<1))||(decide (24<(↑a.size:Int))))||(a==(ByteArray.mk #[111,117,116]))) (some true) ((Ys a 0).bind λb=>
 some (decide (b<97)))).bind λc=>
 (cond c (some true) ((Ys a 0).bind λd=>
 some (decide (122<d)))).bind λg=>
 cond g (
 some false) (
 Gj N a (IC N) N 1)
def Ii (N:Nat) (a:(List (AG×Bool))) (b:ByteArray) (d:ByteArray):Option (Bool×(List (AG×Bool))):=
 (KT N b).bind λc=>
 cond ((!c)||((Lr (λk:AG=>Value.agg (AG.v k).toArray) a (⟨d,b⟩:AG)).getD false)) (
 some (false,a)) (
 some (true,(Og (λk:AG=>Value.agg (AG.v k).toArray) a (⟨d,b⟩:AG) true)))
def Kq (N:Nat) (a:(List (AG×Bool))) (b:ByteArray) (c:ByteArray):Option (Bool×(List (AG×Bool))):=
 cond (b==(ByteArray.mk #[115,104,101,108,116,101,114])) (
 Ii N a c (ByteArray.mk #[116,111,119,110])) (
 Ii N a c b)
def Di (N:Nat) (c2_:(List (AG×Bool))) (c3_:Bool) (a:ByteArray) (b:ByteArray):Option ((List (AG×Bool))×Bool):=
 (Kq N c2_ a b).bind λc=>
 some (c.2,(c.1&&c3_))
def ED (N:Nat) (a:AF) (d:Bool→((List (AG×Bool)))→Option Bool):Nat→Int→Bool→((List (AG×Bool)))→Option Bool
 |0,_,_,_=>none
 |k+1,c,g,i=>
 cond (decide (c<(↑a.A.length:Int))) (
 (ix a.A c).bind λj=>
 (Di N i g (ByteArray.mk #[112,108,97,99,101]) j.F).bind λb=>
 ED N a d k (BT (c+1)) b.2 b.1) (
 d g i)
def EC (N:Nat) (a:AF) (i:Bool→((List (AG×Bool)))→Option Bool):Nat→Int→Bool→((List (AG×Bool)))→Option Bool
 |0,_,_,_=>none
 |k+1,b,c,d=>
 cond (decide (b<(↑a.C.length:Int))) (
 (ix a.C b).bind λj=>
 (Di N d c (ByteArray.mk #[108,105,110,107]) j.F).bind λg=>
 EC N a i k (BT (b+1)) g.2 g.1) (
 i c d)
def EB (N:Nat) (a:AF) (i:Bool→((List (AG×Bool)))→Option Bool):Nat→Int→Bool→((List (AG×Bool)))→Option Bool
 |0,_,_,_=>none
 |k+1,b,c,d=>
 cond (decide (b<(↑a.Af.length:Int))) (
 (ix a.Af b).bind λj=>
 (Di N d c (ByteArray.mk #[116,111,119,110]) j.F).bind λg=>
 EB N a i k (BT (b+1)) g.2 g.1) (
 i c d)
def EA (N:Nat) (a:AF) (i:Bool→((List (AG×Bool)))→Option Bool):Nat→Int→Bool→((List (AG×Bool)))→Option Bool
 |0,_,_,_=>none
 |k+1,b,c,d=>
 cond (decide (b<(↑a.Ak.length:Int))) (
 (ix a.Ak b).bind λj=>
 (Di N d c (ByteArray.mk #[115,104,101,108,116,101,114]) j.F).bind λg=>
 EA N a i k (BT (b+1)) g.2 g.1) (
 i c d)
def Dz (N:Nat) (a:AF) (c:Bool→((List (AG×Bool)))→Option Bool):Nat→Int→Bool→((List (AG×Bool)))→Option Bool
 |0,_,_,_=>none
 |k+1,b,d,g=>
 cond (decide (b<(↑a.Ah.length:Int))) (
 (ix a.Ah b).bind λj=>
 (Di N g d (ByteArray.mk #[103,97,117,103,101]) j.F).bind λi=>
 Dz N a c k (BT (b+1)) i.2 i.1) (
 c d g)
def Dy (N:Nat) (a:AF) (c:Bool→Option Bool):Nat→Int→Bool→((List (AG×Bool)))→Option Bool
 |0,_,_,_=>none
 |k+1,b,d,i=>
 cond (decide (b<(↑a.Ai.length:Int))) (
 (ix a.Ai b).bind λj=>
 (Di N i d (ByteArray.mk #[114,111,97,100]) j.F).bind λg=>
 Dy N a c k (BT (b+1)) g.2 g.1) (
 c d)
def FE (N:Nat) (a:Bool):Option Bool:=
 some a
def FG (N:Nat) (a:AF) (b:Bool) (c:(List (AG×Bool))):Option Bool:=
 Dy N a (FE N) N 0 b c
def Fk (N:Nat) (a:AF) (b:Bool) (c:(List (AG×Bool))):Option Bool:=
 Dz N a (FG N a) N 0 b c
def Fl (N:Nat) (a:AF) (b:Bool) (c:(List (AG×Bool))):Option Bool:=
 EA N a (Fk N a) N 0 b c
def Fm (N:Nat) (a:AF) (b:Bool) (c:(List (AG×Bool))):Option Bool:=
 EB N a (Fl N a) N 0 b c
def Fo (N:Nat) (a:AF) (b:Bool) (c:(List (AG×Bool))):Option Bool:=
 EC N a (Fm N a) N 0 b c
def Fp (N:Nat) (a:AF) (b:Bool) (c:(List (AG×Bool))):Option Bool:=
 ED N a (Fo N a) N 0 b c
def EE (N:Nat) (a:AF) (c:Bool→((List (AG×Bool)))→Option Bool):Nat→Int→Bool→((List (AG×Bool)))→Option Bool
 |0,_,_,_=>none
 |k+1,b,d,g=>
 cond (decide (b<(↑a.J.length:Int))) (
 (ix a.J b).bind λj=>
 (Di N g d (ByteArray.mk #[111,119,110,101,114]) j).bind λi=>
 EE N a c k (BT (b+1)) i.2 i.1) (
 c d g)
def J4 (N:Nat) (a:AF):Option Bool:=
 EE N a (Fp N a) N 0 true ([]:(List (AG×Bool)))
def Ht (N:Nat):Option Bool:=
 some true
def Fd (N:Nat) (a:(List Bz)) (d:Option Bool):Nat→Int→Option Bool
 |0,_=>none
 |l+1,c=>
 cond (decide (c<(↑a.length:Int))) (
 (ix a c).bind λb=>
 cond ((((decide (b.Q<0))||(decide (1125899906842624<b.Q)))||(decide (b.Z<0)))||(decide (1125899906842624<b.Z))) (
 some false) (
 (cond (decide (0<c)) ((ix a (BT (c-1))).bind λg=>
 (cond (decide (b.Q≤g.Q)) (some true) ((ix a (BT (c-1))).bind λi=>
 some (decide (b.Z<i.Z)))).bind λj=>
 some j) (some false)).bind λk=>
 cond k (
 some false) (
 Fd N a d l (BT (c+1))))) (
 d)
def Fe (N:Nat) (a:(List Bz)):Option Bool:=
 cond ((decide ((↑a.length:Int)<1))||(decide (32<(↑a.length:Int)))) (
 some false) (
 Fd N a (Ht N) N 0)
def Hv (N:Nat) (a:Int) (b:Int):Option Bool:=
 (C2 N a).bind λc=>
 (cond c ((C2 N b).bind λd=>
 some d) (some false)).bind λg=>
 some (g&&((decide (b≠0))||(decide (a=0))))
def GF (N:Nat) (b:Int) (a:Int):Option Bool:=
 (DE N b 0 (BT (a-1))).bind λc=>
 some c
def Ju (N:Nat) (c:AF) (b:Int) (a:Int):Option Bool:=
 (cond (decide (a=(-1))) (some true) ((GF N a (↑c.A.length:Int)).bind λd=>
 some (d&&(decide (a≠b))))).bind λg=>
 some g
def CT (N:Nat) (a:Int):Option Bool:=
 some (decide (a≤1125899906842624))
def DH (N:Nat) (d:Cj) (g:Int→Option Bool):Nat→Int→Int→Option Bool
 |0,_,_=>none
 |j+1,b,a=>
 cond (decide (a<(↑d.An.length:Int))) (
 (ix d.An a).bind λc=>
 (C2 N c).bind λi=>
 cond (!i) (
 some false) (
 DH N d g j (BT (b+c)) (BT (a+1)))) (
 g b)
def Ch (N:Nat) (c:AF) (g:Cj) (d:Int) (i:Int→Option Bool):Nat→Int→Int→Option Bool
 |0,_,_=>none
 |m+1,j,b=>
 cond (decide (b<(↑g.S.length:Int))) (
 (ix g.S b).bind λa=>
 (cond ((decide (a.Bg≤j))||(decide (c.K≤a.Bg))) (some true) ((C2 N a.Br).bind λk=>
 some (!k))).bind λl=>
 cond l (
 some false) (
 Ch N c g d i m a.Bg (BT (b+1)))) (
 i d)
def FD (N:Nat) (a:AF) (c:Cj) (d:Int→Option Bool) (b:Int):Option Bool:=
 Ch N a c b d N (-1) 0
def C5 (N:Nat) (a:Int) (b:Int→Int→Option Bool) (c:Int):Option Bool:=
 b c (BT (a+1))
def B6 (N:Nat) (b:AF) (d:Int→Option Bool):Nat→Int→Int→Option Bool
 |0,_,_=>none
 |y+1,g,c=>
 cond (decide (c<(↑b.A.length:Int))) (
 (ix b.A c).bind λa=>
 (DE N a.G 0 3).bind λj=>
 (cond (!j) (some true) ((DE N a.Au 0 2).bind λk=>
 some (!k))).bind λl=>
 (cond l (some true) ((DE N a.R 0 240).bind λm=>
 some (!m))).bind λn=>
 (cond n (some true) ((C2 N a.Av).bind λo=>
 some (!o))).bind λp=>
 (cond p (some true) ((C2 N a.Bi).bind λq=>
 some (!q))).bind λs=>
 (cond s (some true) ((Fe N a.Bm).bind λt=>
 some (!t))).bind λu=>
 (cond (u||(decide ((↑a.An.length:Int)≠(↑b.J.length:Int)))) (some true) ((Hv N a.Aa a.T).bind λv=>
 some (!v))).bind λw=>
 (cond w (some true) ((Ju N b c a.Ao).bind λi=>
 some (!i))).bind λx=>
 cond x (
 some false) (
 DH N a (FD N b a (C5 N c (B6 N b d y))) N g 0)) (
 d g)
def Hb (N:Nat) (a:AF):Option Bool:=
 B6 N a (CT N) N 0 0
def Jp (N:Nat) (a:Int):Option Int:=
 some a
def HC (N:Nat) (b:(Int→Option Bool)) (d:Int→Option Int):Nat→Int→Int→Option Int
 |0,_,_=>none
 |i+1,a,c=>
 cond (decide (a<c)) (
 (b (BT (Fu .u64 (IntKind.wrap .u64 (BT (a+c))) 1))).bind λg=>
 cond (!g) (
 HC N b d i (BT ((BT (Fu .u64 (IntKind.wrap .u64 (BT (a+c))) 1))+1)) c) (
 HC N b d i a (BT (Fu .u64 (IntKind.wrap .u64 (BT (a+c))) 1)))) (
 d a)
def L8 (N:Nat) (a:Int) (b:(Int→Option Bool)):Option Int:=
 HC N b (Jp N) N 0 a
def JL (N:Nat) (b:(List Bz)) (c2_:Int) (a:Int):Option Bool:=
 (ix b a).bind λc=>
 some (decide (c2_<c.Q))
def IA (N:Nat) (a:Int) (b:Int):Option (Int×Int):=
 some ((IntKind.wrap .u64 ((IntKind.wrap .u64 ((IntKind.wrap .u64 ((Fu .u64 a 32)*(Fu .u64 b 32)))+(Fu .u64 (IntKind.wrap .u64 ((IntKind.wrap .u64 ((Fu .u64 a 32)*(IU .and .u64 b 4294967295)))+(Fu .u64 (IntKind.wrap .u64 ((IU .and .u64 a 4294967295)*(IU .and .u64 b 4294967295))) 32))) 32)))+(Fu .u64 (IntKind.wrap .u64 ((IU .and .u64 (IntKind.wrap .u64 ((IntKind.wrap .u64 ((Fu .u64 a 32)*(IU .and .u64 b 4294967295)))+(Fu .u64 (IntKind.wrap .u64 ((IU .and .u64 a 4294967295)*(IU .and .u64 b 4294967295))) 32))) 4294967295)+(IntKind.wrap .u64 ((IU .and .u64 a 4294967295)*(Fu .u64 b 32))))) 32))),(IntKind.wrap .u64 (a*b)))
def HD (N:Nat) (a:Int) (b:Int):Option Int:=
 (Ys Nj (IntKind.wrap .u8 a)).bind λc=>
 some (BT (b+(BT c)))
def HE (N:Nat) (a:Int) (b:Int):Option Int:=
 cond (decide (256≤a)) (
 HD N (Fu .u64 a 8) (BT (b+8))) (
 HD N a b)
def HG (N:Nat) (a:Int) (b:Int):Option Int:=
 cond (decide (65536≤a)) (
 HE N (Fu .u64 a 16) (BT (b+16))) (
 HE N a b)
def JQ (N:Nat) (a:Int):Option Int:=
 cond (decide (4294967296≤a)) (
 HG N (Fu .u64 a 32) 32) (
 HG N a 0)
def GB (N:Nat) (a:Int):Option Int:=
 (JQ N a).bind λb=>
 some (BT (64-b))
def EO (N:Nat) (b:Int) (a:Int) (d:Nat) (j:Nat) (g:Int→Option (Int×Int)):Nat→Int→Int→Option (Int×Int)
 |0,_,_=>none
 |k+1,i,c=>
 cond ((decide (4294967296≤c))||(decide ((IntKind.wrap .u64 ((IntKind.wrap .u64 (4294967296*i))+(IU .and .u64 (Ec .u64 b j) 4294967295)))<(IntKind.wrap .u64 (c*(IU .and .u64 (Ec .u64 a d) 4294967295)))))) (
 cond (decide (4294967296≤(IntKind.wrap .u64 (i+(Fu .u64 (Ec .u64 a d) 32))))) (
 g (IntKind.wrap .u64 (c-1))) (
 EO N b a d j g k (IntKind.wrap .u64 (i+(Fu .u64 (Ec .u64 a d) 32))) (IntKind.wrap .u64 (c-1)))) (
 g c)
def GC (N:Nat) (c:Int) (a:Int) (b:Int) (n:Int) (d:Nat) (k:Nat) (l:Nat) (g:Nat) (i:Int) (j:Int):Option (Int×Int):=
 (Qa (IntKind.wrap .u64 n)).bind λm=>
 some ((IntKind.wrap .u64 ((IntKind.wrap .u64 (i*4294967296))+j)),(Fu .u64 (IntKind.wrap .u64 ((IntKind.wrap .u64 ((IntKind.wrap .u64 ((IntKind.wrap .u64 ((IntKind.wrap .u64 ((IntKind.wrap .u64 ((IU .or .u64 (Ec .u64 c k) (Fu .u64 a l))*4294967296))+(Fu .u64 (Ec .u64 a g) 32)))-(IntKind.wrap .u64 (i*(Ec .u64 b d)))))*4294967296))+(IU .and .u64 (Ec .u64 a g) 4294967295)))-(IntKind.wrap .u64 (j*(Ec .u64 b d))))) m))
def EQ (N:Nat) (c:Int) (a:Int) (b:Int) (m:Int) (d:Nat) (i:Nat) (j:Nat) (g:Nat) (k:Int):Option (Int×Int):=
 (ST .u64 (IntKind.wrap .u64 ((IntKind.wrap .u64 ((IntKind.wrap .u64 ((IU .or .u64 (Ec .u64 c i) (Fu .u64 a j))*4294967296))+(Fu .u64 (Ec .u64 a g) 32)))-(IntKind.wrap .u64 (k*(Ec .u64 b d))))) (Fu .u64 (Ec .u64 b d) 32)).bind λl=>
 EO N a b d g (GC N c a b m d i j g k) N (IntKind.wrap .u64 ((IntKind.wrap .u64 ((IntKind.wrap .u64 ((IntKind.wrap .u64 ((IU .or .u64 (Ec .u64 c i) (Fu .u64 a j))*4294967296))+(Fu .u64 (Ec .u64 a g) 32)))-(IntKind.wrap .u64 (k*(Ec .u64 b d)))))-(IntKind.wrap .u64 (l*(Fu .u64 (Ec .u64 b d) 32))))) l
def D3 (N:Nat) (b:Int) (a:Int) (d:Nat) (j:Nat) (g:Int→Option (Int×Int)):Nat→Int→Int→Option (Int×Int)
 |0,_,_=>none
 |k+1,c,i=>
 cond ((decide (4294967296≤c))||(decide ((IntKind.wrap .u64 ((IntKind.wrap .u64 (4294967296*i))+(Fu .u64 (Ec .u64 b j) 32)))<(IntKind.wrap .u64 (c*(IU .and .u64 (Ec .u64 a d) 4294967295)))))) (
 cond (decide (4294967296≤(IntKind.wrap .u64 (i+(Fu .u64 (Ec .u64 a d) 32))))) (
 g (IntKind.wrap .u64 (c-1))) (
 D3 N b a d j g k (IntKind.wrap .u64 (c-1)) (IntKind.wrap .u64 (i+(Fu .u64 (Ec .u64 a d) 32))))) (
 g c)
def Gi (N:Nat) (c:Int) (b:Int) (a:Int):Option (Int×Int):=
 cond (decide (a=0)) (
 none) (
 cond (decide (a≤c)) (
 none) (
 cond (decide (c=0)) (
 (ST .u64 b a).bind λm=>
 (Uz b a).bind λn=>
 some (m,n)) (
 (GB N a).bind λj=>
 (Qa (IntKind.wrap .u64 j)).bind λd=>
 (Qa (IntKind.wrap .u64 j)).bind λg=>
 (Qa (IntKind.wrap .u64 (64-(IntKind.wrap .u64 j)))).bind λi=>
 (Qa (IntKind.wrap .u64 j)).bind λk=>
 (ST .u64 (IU .or .u64 (Ec .u64 c g) (Fu .u64 b i)) (Fu .u64 (Ec .u64 a d) 32)).bind λl=>
 D3 N b a d k (EQ N c b a j d g i k) N l (IntKind.wrap .u64 ((IU .or .u64 (Ec .u64 c g) (Fu .u64 b i))-(IntKind.wrap .u64 (l*(Fu .u64 (Ec .u64 a d) 32))))))))
def Gt (N:Nat) (c:Int) (b:Int) (a:Int):Option (Int×Int×Bool):=
 cond ((((((decide (c<0))||(decide (1125899906842624<c)))||(decide (b<0)))||(decide (1125899906842624<b)))||(decide (a<1)))||(decide (1125899906842624<a))) (
 some (0,0,false)) (
 (IA N (IntKind.wrap .u64 c) (IntKind.wrap .u64 b)).bind λg=>
 cond (decide ((IntKind.wrap .u64 a)≤g.1)) (
 some (0,0,false)) (
 (Gi N g.1 g.2 (IntKind.wrap .u64 a)).bind λd=>
 cond (decide (1125899906842624<d.1)) (
 some (0,0,false)) (
 some ((BT d.1),(BT d.2),true))))
def Jf (N:Nat) (a:(List Bz)) (d:Int):Option (Int×Bool):=
 (L8 N (↑a.length:Int) (λx=>JL N a d x)).bind λb=>
 cond (decide (b=0)) (
 (ix a 0).bind λi=>
 some (i.Z,false)) (
 (ix a (BT (b-1))).bind λc=>
 cond (decide (b=(↑a.length:Int))) (
 some (c.Z,false)) (
 (ix a b).bind λj=>
 (ix a b).bind λk=>
 (Gt N (BT (d-c.Q)) (BT (j.Z-c.Z)) (BT (k.Q-c.Q))).bind λg=>
 some ((BT (c.Z+g.1)),(decide (0<g.2.1)))))
def HH (N:Nat) (b:(List Bz)) (a:(List Bz)) (i:Option Bool):Nat→Int→Option Bool
 |0,_=>none
 |j+1,c=>
 cond (decide (c<(↑a.length:Int))) (
 (ix a c).bind λd=>
 (Jf N b d.Q).bind λg=>
 cond ((decide (d.Z<g.1))||((decide (g.1=d.Z))&&g.2)) (
 some false) (
 HH N b a i j (BT (c+1)))) (
 i)
def Ih (N:Nat):Option Bool:=
 some true
def HJ (N:Nat) (a:(List Bz)) (b:(List Bz)):Option Bool:=
 HH N a b (Ih N) N 0
def HI (N:Nat) (a:(List Bz)) (b:(List Bz)) (d:Option Bool):Nat→Int→Option Bool
 |0,_=>none
 |j+1,c=>
 cond (decide (c<(↑a.length:Int))) (
 (ix a c).bind λg=>
 (Jf N b g.Q).bind λi=>
 cond (decide (i.1<g.Z)) (
 some false) (
 HI N a b d j (BT (c+1)))) (
 d)
def Id (N:Nat) (a:(List Bz)) (b:(List Bz)):Option Bool:=
 (Fe N a).bind λc=>
 (cond (!c) (some true) ((Fe N b).bind λd=>
 some (!d))).bind λg=>
 cond g (
 some false) (
 HI N a b (HJ N a b) N 0)
def EW (N:Nat) (a:BC) (b:Bool):Option Bool:=
 cond b (
 (C2 N a.Bd).bind λc=>
 (cond c ((C2 N a.Aa).bind λd=>
 some d) (some false)).bind λg=>
 (cond g ((DE N a.T 1 1125899906842624).bind λi=>
 some i) (some false)).bind λj=>
 some j) (
 cond (decide (a.G=2)) (
 (C2 N a.Aa).bind λk=>
 (cond k ((DE N a.W 1 64).bind λl=>
 some l) (some false)).bind λm=>
 (cond m ((DE N a.Ag 0 a.W).bind λn=>
 some n) (some false)).bind λo=>
 some o) (
 cond (decide (a.G=3)) (
 (C2 N a.Aa).bind λp=>
 (cond p ((DE N a.T 1 1125899906842624).bind λq=>
 some q) (some false)).bind λs=>
 (cond s ((C2 N a.Az).bind λt=>
 some t) (some false)).bind λu=>
 (cond u ((C2 N a.Ba).bind λv=>
 some v) (some false)).bind λw=>
 some (w&&(decide (a.Ba<a.Az)))) (
 (C2 N a.Aa).bind λx=>
 (cond x ((DE N a.T 1 1125899906842624).bind λy=>
 some y) (some false)).bind λz=>
 (cond z ((Hv N a.Aq a.Al).bind λA=>
 some A) (some false)).bind λB=>
 some (B&&(decide (a.E≠(-1)))))))
def Gd (N:Nat) (a:BC):Option Bool:=
 cond (decide (a.G=0)) (
 (Fe N a.As).bind λb=>
 (cond b ((Fe N a.Ae.Aw).bind λc=>
 some c) (some false)).bind λd=>
 (cond d ((Fe N a.Ae.Ax).bind λg=>
 some g) (some false)).bind λi=>
 (cond i ((Id N a.Ae.Aw a.As).bind λj=>
 some j) (some false)).bind λk=>
 (cond k ((Id N a.As a.Ae.Ax).bind λl=>
 some l) (some false)).bind λm=>
 (cond m ((DE N a.W 0 64).bind λn=>
 some n) (some false)).bind λo=>
 (cond o ((DE N a.Ag 0 a.W).bind λp=>
 some p) (some false)).bind λq=>
 (cond q ((C2 N a.Bc).bind λs=>
 some s) (some false)).bind λt=>
 (cond t ((Hv N a.Aq a.Al).bind λu=>
 some u) (some false)).bind λv=>
 some (v&&((decide (a.E≠(-1)))||(decide (a.Al=0))))) (
 cond (decide (a.G=1)) (
 EW N a (decide (a.G=1))) (
 EW N a (decide (a.G=5))))
def Fh (N:Nat) (a:BC):Option Bool:=
 cond ((!(decide (a.G=0)))&&((((decide (0<(↑a.As.length:Int)))||(decide (0<(↑a.Ae.Aw.length:Int))))||(decide (0<(↑a.Ae.Ax.length:Int))))||(decide (a.Bc≠0)))) (
 some false) (
 cond (((!(decide (a.G=0)))&&(decide (a.G≠2)))&&((decide (a.W≠0))||(decide (a.Ag≠0)))) (
 some false) (
 cond (((decide (a.G≠1))&&(decide (a.G≠5)))&&(decide (a.Bd≠0))) (
 some false) (
 cond (((decide (a.G=0))&&(decide (a.Aa≠0)))||(((decide (a.G=0))||(decide (a.G=2)))&&(decide (a.T≠0)))) (
 some false) (
 cond ((decide (a.G≠3))&&((decide (a.Az≠0))||(decide (a.Ba≠0)))) (
 some false) (
 some (((decide (a.G=0))||(decide (a.G=4)))||((decide (a.Aq=0))&&(decide (a.Al=0)))))))))
def Dr (N:Nat):Option Bool:=
 some true
def Cc (N:Nat) (a:AF) (d:Option Bool):Nat→Int→Option Bool
 |0,_=>none
 |t+1,c=>
 cond (decide (c<(↑a.C.length:Int))) (
 (ix a.C c).bind λb=>
 (DE N b.G 0 5).bind λg=>
 (cond (!g) (some true) ((GF N b.M (↑a.A.length:Int)).bind λi=>
 some (!i))).bind λj=>
 (cond j (some true) ((Ju N a b.M b.E).bind λk=>
 some (!k))).bind λl=>
 (cond l (some true) ((DE N b.R 0 240).bind λm=>
 some (!m))).bind λn=>
 (cond n (some true) ((Gd N b).bind λo=>
 some (!o))).bind λp=>
 (cond p (some true) ((Fh N b).bind λq=>
 some (!q))).bind λs=>
 cond s (
 some false) (
 Cc N a d t (BT (c+1)))) (
 d)
def FH (N:Nat) (a:AF):Option Bool:=
 Cc N a (Dr N) N 0
def Ke (N:Nat) (c:AF) (a:Int) (b:Int):Option Bool:=
 cond (decide (b=(-1))) (
 some (decide (a=2))) (
 (ix c.A b).bind λd=>
 some ((decide (d.Au=a))||(decide (d.Au=(BT (a+1))))))
def EF (N:Nat) (a:AF) (g:Option Bool):Nat→Int→Option Bool
 |0,_=>none
 |m+1,d=>
 cond (decide (d<(↑a.C.length:Int))) (
 (ix a.C d).bind λb=>
 (ix a.A b.M).bind λc=>
 (Ke N a c.Au b.E).bind λi=>
 (cond (!i) (some true) ((cond (decide (b.G=4)) ((ix a.A b.E).bind λj=>
 some (decide (j.Au≠c.Au))) (some false)).bind λk=>
 some k)).bind λl=>
 cond l (
 some false) (
 EF N a g m (BT (d+1)))) (
 g)
def F6 (N:Nat):Option Bool:=
 some true
def EH (N:Nat) (a:AF):Option Bool:=
 EF N a (F6 N) N 0
def EG (N:Nat) (a:AF) (c:Option Bool):Nat→Int→Option Bool
 |0,_=>none
 |i+1,b=>
 cond (decide (b<(↑a.A.length:Int))) (
 (ix a.A b).bind λd=>
 (Ke N a d.Au d.Ao).bind λg=>
 cond (!g) (
 some false) (
 EG N a c i (BT (b+1)))) (
 c)
def H5 (N:Nat) (a:AF):Option Bool:=
 EG N a (EH N a) N 0
def Kd (N:Nat) (a:Int):Option Int:=
 some (BT a)
def Gu (N:Nat) (b:Int) (a:Int):Option Int:=
 cond (decide (a=0)) (
 some 0) (
 cond (decide (a<b)) (
 some 1099511627777) (
 (IA N (IntKind.wrap .u64 b) 1099511627776).bind λd=>
 (Gi N d.1 d.2 (IntKind.wrap .u64 a)).bind λc=>
 cond (decide (c.2≠0)) (
 Kd N (IntKind.wrap .u64 (c.1+1))) (
 Kd N c.1)))
def Er (N:Nat) (a:Int):Option Int:=
 some a
def Fg (N:Nat) (a:(List Bz)) (c:Int→Option Int):Nat→Int→Int→Option Int
 |0,_,_=>none
 |m+1,d,b=>
 cond (decide (b<(↑a.length:Int))) (
 (ix a b).bind λg=>
 (ix a (BT (b-1))).bind λi=>
 (ix a b).bind λj=>
 (ix a (BT (b-1))).bind λk=>
 (Gu N (BT (g.Z-i.Z)) (BT (j.Q-k.Q))).bind λl=>
 Fg N a c m (max d l) (BT (b+1))) (
 c d)
def Gc (N:Nat) (a:Int) (b:Int→Int→Option Int) (c:Int):Option Int:=
 b c (BT (a+1))
def Dw (N:Nat) (a:(List (List Bz))) (c:Int→Option Int):Nat→Int→Int→Option Int
 |0,_,_=>none
 |i+1,g,b=>
 cond (decide (b<(↑a.length:Int))) (
 (ix a b).bind λd=>
 Fg N d (Gc N b (Dw N a c i)) N g 1) (
 c g)
def Jv (N:Nat) (a:(List (List Bz))):Option Int:=
 Dw N a (Er N) N 0 0
def C4 (N:Nat) (b:Int) (c:Int→(List Int)→Option Bool) (a:List Int):Option Bool:=
 c (BT (b+1)) a
def ET (N:Nat) (b:List Int) (a:BC) (g:(List Int)→Option Bool) (i:Bool):Option Bool:=
 cond i (
 (ix b a.M).bind λn=>
 (ix b a.M).bind λj=>
 (Gu N a.Aa a.T).bind λk=>
 (ix b a.M).bind λo=>
 (ix b a.M).bind λp=>
 g (upd b a.M (BT (j+k)))) (
 cond (decide (a.G=4)) (
 (ix b a.M).bind λq=>
 (ix b a.M).bind λc=>
 (Gu N a.Aa a.T).bind λd=>
 (ix b a.M).bind λs=>
 (ix b a.M).bind λt=>
 (ix (upd b a.M (BT (c+(BT (2*d))))) a.E).bind λu=>
 (ix (upd b a.M (BT (c+(BT (2*d))))) a.E).bind λl=>
 (Gu N a.Aq a.Al).bind λm=>
 (ix (upd b a.M (BT (c+(BT (2*d))))) a.E).bind λv=>
 (ix (upd b a.M (BT (c+(BT (2*d))))) a.E).bind λw=>
 g (upd (upd b a.M (BT (c+(BT (2*d))))) a.E (BT (l+(BT (2*m)))))) (
 g b))
def IT (N:Nat) (b:Bool→Option Bool) (a:Bool):Option Bool:=
 b a
def B5 (N:Nat) (c:AF) (j:(List Int)→Option Bool):Nat→Int→(List Int)→Option Bool
 |0,_,_=>none
 |k+1,i,b=>
 cond (decide (i<(↑c.C.length:Int))) (
 (ix c.C i).bind λa=>
 cond (decide (a.G=0)) (
 (ix b a.M).bind λn=>
 (ix b a.M).bind λd=>
 (Jv N ([a.As,a.Ae.Aw,a.Ae.Ax]:List (List Bz))).bind λg=>
 (ix b a.M).bind λo=>
 (ix b a.M).bind λp=>
 cond (decide (a.E≠(-1))) (
 (ix (upd b a.M (BT (d+g))) a.E).bind λq=>
 (ix (upd b a.M (BT (d+g))) a.E).bind λl=>
 (Gu N a.Aq a.Al).bind λm=>
 (ix (upd b a.M (BT (d+g))) a.E).bind λs=>
 (ix (upd b a.M (BT (d+g))) a.E).bind λt=>
 C4 N i (B5 N c j k) (upd (upd b a.M (BT (d+g))) a.E (BT (l+m)))) (
 C4 N i (B5 N c j k) (upd b a.M (BT (d+g))))) (
 cond (decide (a.G=1)) (
 ET N b a (C4 N i (B5 N c j k)) (decide (a.G=1))) (
 cond (decide (a.G=5)) (
 IT N (ET N b a (C4 N i (B5 N c j k))) (decide (a.G=5))) (
 IT N (ET N b a (C4 N i (B5 N c j k))) (decide (a.G=3)))))) (
 j b)
def ER (N:Nat) (b:List Int) (c:Option Bool):Nat→Int→Option Bool
 |0,_=>none
 |i+1,a=>
 cond (decide (a<(↑b.length:Int))) (
 (ix b a).bind λg=>
 (ix b a).bind λd=>
 cond (decide (1099511627776<d)) (
 some false) (
 ER N b c i (BT (a+1)))) (
 c)
def GU (N:Nat):Option Bool:=
 some true
def DG (N:Nat) (a:List Int):Option Bool:=
 ER N a (GU N) N 0
def EU (N:Nat) (a:AF) (b:List Int):Option Bool:=
 B5 N a (DG N) N 0 b
def ES (N:Nat) (b:AF) (d:(List Int)→Option Bool):Nat→Int→(List Int)→Option Bool
 |0,_,_=>none
 |j+1,a,c=>
 cond (decide (a<(↑b.A.length:Int))) (
 (ix b.A a).bind λg=>
 (Gu N g.Aa g.T).bind λi=>
 (ix c a).bind λk=>
 (ix c a).bind λl=>
 ES N b d j (BT (a+1)) (upd c a i)) (
 d c)
def IM (N:Nat) (a:AF):Option Bool:=
 chk (LU (↑a.A.length:Int) (↑a.A.length:Int) 8) <|
 ES N a (EU N a) N 0 (List.replicate ((↑a.A.length:Int):Int).toNat (0:Int))
def Ei (N:Nat) (a:AF) (c:Option Bool):Nat→Int→Option Bool
 |0,_=>none
 |i+1,b=>
 cond (decide (b<(↑a.Ak.length:Int))) (
 (ix a.Ak b).bind λd=>
 (DE N d.Aj 0 1073741824).bind λg=>
 cond (!g) (
 some false) (
 Ei N a c i (BT (b+1)))) (
 c)
def Gl (N:Nat):Option Bool:=
 some true
def Ek (N:Nat) (a:AF):Option Bool:=
 Ei N a (Gl N) N 0
def Ej (N:Nat) (a:AF) (d:Option Bool):Nat→Int→Option Bool
 |0,_=>none
 |t+1,c=>
 cond (decide (c<(↑a.Af.length:Int))) (
 (ix a.Af c).bind λb=>
 (GF N b.Ap (↑a.A.length:Int)).bind λg=>
 (cond (!g) (some true) ((C2 N b.Bs).bind λi=>
 some (!i))).bind λj=>
 (cond j (some true) ((DE N b.Bq 0 24).bind λk=>
 some (!k))).bind λl=>
 (cond l (some true) ((DE N b.Bv 0 1073741824).bind λm=>
 some (!m))).bind λn=>
 (cond n (some true) ((C2 N b.Bt).bind λo=>
 some (!o))).bind λp=>
 (cond p (some true) ((DE N b.Bp 0 128).bind λq=>
 some (!q))).bind λs=>
 cond s (
 some false) (
 Ej N a d t (BT (c+1)))) (
 d)
def Iv (N:Nat) (a:AF):Option Bool:=
 Ej N a (Ek N a) N 0
def GV (N:Nat):Option Bool:=
 some true
def EV (N:Nat) (a:AF) (d:Option Bool):Nat→Int→Option Bool
 |0,_=>none
 |o+1,c=>
 cond (decide (c<(↑a.Ah.length:Int))) (
 (ix a.Ah c).bind λb=>
 (DE N b.G 0 2).bind λg=>
 (cond (!g) (some true) ((DE N b.L 0 1099511627776).bind λi=>
 some (!i))).bind λj=>
 (cond j (some true) ((DE N b.Bu 0 1440).bind λk=>
 some (!k))).bind λl=>
 cond l (
 some false) (
 (ix ([(↑a.A.length:Int),a.K,(↑a.C.length:Int)]:List Int) b.G).bind λm=>
 (GF N b.Ac m).bind λn=>
 cond (!n) (
 some false) (
 EV N a d o (BT (c+1))))) (
 d)
def IP (N:Nat) (a:AF):Option Bool:=
 EV N a (GV N) N 0
def Gm (N:Nat):Option Bool:=
 some true
def El (N:Nat) (a:AF) (d:Option Bool):Nat→Int→Option Bool
 |0,_=>none
 |u+1,c=>
 cond (decide (c<(↑a.Ai.length:Int))) (
 (ix a.Ai c).bind λb=>
 (GF N b.M (↑a.Af.length:Int)).bind λg=>
 (cond (!g) (some true) ((GF N b.E (BT ((↑a.Af.length:Int)+(↑a.Ak.length:Int)))).bind λi=>
 some (!i))).bind λj=>
 (cond (j||(decide (b.M=b.E))) (some true) ((DE N b.Bw 1 24).bind λk=>
 some (!k))).bind λl=>
 (cond l (some true) ((DE N b.Bx 0 1073741824).bind λm=>
 some (!m))).bind λn=>
 (cond n (some true) ((C2 N b.Bn).bind λo=>
 some (!o))).bind λp=>
 cond p (
 some false) (
 (cond ((decide (b.Bl=(-1)))&&(decide (b.Bn≠0))) (some true) ((cond (decide (b.Bl≠(-1))) ((GF N b.Bl (↑a.A.length:Int)).bind λq=>
 some (!q)) (some false)).bind λs=>
 some s)).bind λt=>
 cond t (
 some false) (
 El N a d u (BT (c+1))))) (
 d)
def Iw (N:Nat) (a:AF):Option Bool:=
 El N a (Gm N) N 0
def Gv (N:Nat) (a:AF):Option Bool:=
 (IB N a).bind λv=>
 (cond v ((J4 N a).bind λb=>
 some b) (some false)).bind λc=>
 (cond c ((Hb N a).bind λd=>
 some d) (some false)).bind λg=>
 (cond g ((FH N a).bind λi=>
 some i) (some false)).bind λj=>
 (cond j ((H5 N a).bind λk=>
 some k) (some false)).bind λl=>
 (cond l ((IM N a).bind λm=>
 some m) (some false)).bind λn=>
 (cond n ((Iv N a).bind λo=>
 some o) (some false)).bind λp=>
 (cond p ((IP N a).bind λq=>
 some q) (some false)).bind λs=>
 (cond s ((Iw N a).bind λt=>
 some t) (some false)).bind λu=>
 some u
def Hh (N:Nat):Option Bool:=
 some true
def FT (N:Nat) (a:(List Int)) (c:Option Bool):Nat→Int→Int→Option Bool
 |0,_,_=>none
 |i+1,g,d=>
 cond (decide (d<(↑a.length:Int))) (
 (ix a d).bind λb=>
 cond ((decide (b<0))||(decide ((BT (1125899906842624-g))<b))) (
 some false) (
 FT N a c i (BT (g+b)) (BT (d+1)))) (
 c)
def JP (N:Nat) (a:(List Int)):Option Bool:=
 FT N a (Hh N) N 0 0
def Kb (N:Nat) (b:(List Int)) (a:Int):Option Bool:=
 (cond (((decide (0≤a))&&(decide (a≤16)))&&(decide ((↑b.length:Int)=a))) ((JP N b).bind λc=>
 some c) (some false)).bind λd=>
 some d
def H4 (N:Nat) (b:Int) (a:Int):Option Int:=
 cond ((decide (0<a))&&(decide ((BT (9223372036854775807-a))<b))) (
 some 9223372036854775807) (
 cond ((decide (a<0))&&(decide (b<(BT ((-9223372036854775808)-a))))) (
 some (-9223372036854775808)) (
 some (BT (b+a))))
def JK (N:Nat) (a:Int):Option Int:=
 some a
def Hi (N:Nat) (a:(List Int)) (c:Int→Option Int):Nat→Int→Int→Option Int
 |0,_,_=>none
 |j+1,i,b=>
 cond (decide (b<(↑a.length:Int))) (
 (ix a b).bind λd=>
 (H4 N i d).bind λg=>
 Hi N a c j g (BT (b+1))) (
 c i)
def FC (N:Nat) (a:(List Int)):Option Int:=
 Hi N a (JK N) N 0 0
def HR (N:Nat) (b:Int) (a:Int):Option Bool:=
 some ((decide (0≤b))&&(decide (b<a)))
def G7 (N:Nat) (b:AF) (a:AI) (j:Int→Option (Int×Bool)):Nat→Int→Int→Option (Int×Bool)
 |0,_,_=>none
 |o+1,g,i=>
 cond (decide (i<(↑a.I.length:Int))) (
 (ix a.I i).bind λd=>
 (cond (decide (d.At<a.B)) (some true) ((HR N d.E (↑b.A.length:Int)).bind λk=>
 some (!k))).bind λl=>
 (cond l (some true) ((Kb N d.V (↑b.J.length:Int)).bind λm=>
 some (!m))).bind λn=>
 cond n (
 some (0,false)) (
 (FC N d.V).bind λc=>
 cond ((decide (c≤0))||(decide (1125899906842624<(BT (g+c))))) (
 some (0,false)) (
 G7 N b a j o (BT (g+c)) (BT (i+1))))) (
 j g)
def Ig (N:Nat) (a:Int):Option (Int×Bool):=
 some (a,true)
def GM (N:Nat) (a:AF) (b:AI) (c:Int):Option (Int×Bool):=
 G7 N a b (Ig N) N c 0
def GL (N:Nat) (b:AF) (a:AI) (g:Int→Option (Int×Bool)):Nat→Int→Int→Option (Int×Bool)
 |0,_,_=>none
 |l+1,c,d=>
 cond (decide (d<(↑a.H.length:Int))) (
 (ix a.H d).bind λi=>
 (Kb N i (↑b.J.length:Int)).bind λk=>
 cond (!k) (
 some (0,false)) (
 (FC N i).bind λj=>
 cond (decide (1125899906842624<(BT (c+j)))) (
 some (0,false)) (
 GL N b a g l (BT (c+j)) (BT (d+1))))) (
 g c)
def Km (N:Nat) (a:AF) (b:AI):Option (Int×Bool):=
 GL N a b (GM N a b) N 0 0
def H8 (N:Nat) (a:Int):Option (Int×Bool):=
 some (a,true)
def Gf (N:Nat) (b:(List Int)) (a:Int) (g:Int→Option (Int×Bool)):Nat→Int→Int→Option (Int×Bool)
 |0,_,_=>none
 |j+1,i,c=>
 cond (decide (c<(↑b.length:Int))) (
 (ix b c).bind λd=>
 cond ((decide (d<0))||(decide ((BT (a-i))<d))) (
 some (0,false)) (
 Gf N b a g j (BT (i+d)) (BT (c+1)))) (
 g i)
def Jn (N:Nat) (b:(List Int)) (a:Int):Option (Int×Bool):=
 Gf N b a (H8 N) N 0 0
def G0 (N:Nat) (d:AF) (g:AI) (i:Option Bool):Nat→Int→Option Bool
 |0,_=>none
 |j+1,b=>
 cond (decide (b<(↑d.C.length:Int))) (
 (ix d.C b).bind λc=>
 (ix g.P b).bind λa=>
 cond ((((decide (a.Ab<0))||(decide (c.W<a.Ab)))||(decide (a.Ac<0)))||(decide (c.W<a.Ac))) (
 some false) (
 cond ((a.Am&&(decide (c.G≠5)))&&(decide (c.G≠3))) (
 some false) (
 G0 N d g i j (BT (b+1))))) (
 i)
def G2 (N:Nat) (d:AF) (a:AI):Option Bool:=
 (Km N d a).bind λb=>
 cond (!b.2) (
 some false) (
 (Jn N a.D 1152921504606846976).bind λc=>
 cond (!c.2) (
 some false) (
 (Jn N a.O (BT ((BT (c.1+1125899906842624))-b.1))).bind λg=>
 some g.2))
def G3 (N:Nat) (a:AF) (b:AI):Option Bool:=
 G0 N a b (G2 N a b) N 0
def G1 (N:Nat) (a:AF) (b:AI) (d:Option Bool):Nat→Int→Option Bool
 |0,_=>none
 |l+1,c=>
 cond (decide (c<(↑a.A.length:Int))) (
 (ix a.A c).bind λk=>
 (ix b.N c).bind λg=>
 (cond (decide (g<0)) (some true) ((ix b.N c).bind λi=>
 some (decide ((max 0 (BT (k.T-1)))<i)))).bind λj=>
 cond j (
 some false) (
 G1 N a b d l (BT (c+1)))) (
 d)
def Ka (N:Nat) (b:AF) (a:AI):Option Bool:=
 cond (((((((decide (a.B<0))||(decide (16777216<a.B)))||(decide ((↑a.H.length:Int)≠(↑b.A.length:Int))))||(decide ((↑a.N.length:Int)≠(↑b.A.length:Int))))||(decide ((↑a.P.length:Int)≠(↑b.C.length:Int))))||(decide ((↑a.D.length:Int)≠(↑b.J.length:Int))))||(decide ((↑a.O.length:Int)≠(↑b.J.length:Int)))) (
 some false) (
 G1 N b a (G3 N b a) N 0)
def GY (N:Nat) (a:(List (List Int))):Option (List (List Int)):=
 chk (HQ (([]:List (List Int)).length+a.length) 24) <|
 some (([]:List (List Int))++a)
def Cz (N:Nat) (a:(List AT)):Option (List AT):=
 chk (HQ (([]:List AT).length+a.length) 40) <|
 some (([]:List AT)++a)
def BW (N:Nat) (a:(List A3)):Option (List A3):=
 chk (HQ (([]:List A3).length+a.length) 24) <|
 some (([]:List A3)++a)
def D5 (N:Nat) (c:(List AT)) (d:(List AT)→Option AI):Nat→Int→(List AT)→Option AI
 |0,_,_=>none
 |m+1,a,b=>
 cond (decide (a<(↑c.length:Int))) (
 (ix b a).bind λk=>
 (ix b a).bind λg=>
 (BO N g.V).bind λi=>
 (ix b a).bind λl=>
 (ix b a).bind λj=>
 D5 N c d m (BT (a+1)) (upd b a ({ j with V:=i}))) (
 d b)
def Ee (N:Nat) (a:AI) (j:List (List Int)) (b:List AT):Option AI:=
 (BO N a.N).bind λc=>
 (BW N a.P).bind λd=>
 (BO N a.D).bind λg=>
 (BO N a.O).bind λi=>
 some (⟨a.B,j,c,b,d,g,i⟩:AI)
def Ef (N:Nat) (a:AI) (c:List (List Int)):Option AI:=
 (Cz N a.I).bind λb=>
 D5 N b (Ee N a c) N 0 b
def D6 (N:Nat) (c:(List (List Int))) (d:(List (List Int))→Option AI):Nat→Int→(List (List Int))→Option AI
 |0,_,_=>none
 |k+1,a,b=>
 cond (decide (a<(↑c.length:Int))) (
 (ix b a).bind λl=>
 (ix b a).bind λg=>
 (BO N g).bind λi=>
 (ix b a).bind λm=>
 (ix b a).bind λj=>
 D6 N c d k (BT (a+1)) (upd b a i)) (
 d b)
def Is (N:Nat) (a:AI):Option AI:=
 (GY N a.H).bind λb=>
 D6 N b (Ef N a) N 0 b
def FQ (N:Nat) (a:(List ByteArray)):Option (List ByteArray):=
 chk (HQ (([]:List ByteArray).length+a.length) 16) <|
 some (([]:List ByteArray)++a)
def Cm (N:Nat) (a:(List Cj)):Option (List Cj):=
 chk (HQ (([]:List Cj).length+a.length) 152) <|
 some (([]:List Cj)++a)
def BS (N:Nat) (a:(List Bz)):Option (List Bz):=
 chk (HQ (([]:List Bz).length+a.length) 16) <|
 some (([]:List Bz)++a)
def C1 (N:Nat) (a:(List Lm)):Option (List Lm):=
 chk (HQ (([]:List Lm).length+a.length) 16) <|
 some (([]:List Lm)++a)
def C0 (N:Nat) (a:(List BC)):Option (List BC):=
 chk (HQ (([]:List BC).length+a.length) 200) <|
 some (([]:List BC)++a)
def Cx (N:Nat) (a:(List Ku)):Option (List Ku):=
 chk (HQ (([]:List Ku).length+a.length) 64) <|
 some (([]:List Ku)++a)
def Cn (N:Nat) (a:(List JJ)):Option (List JJ):=
 chk (HQ (([]:List JJ).length+a.length) 48) <|
 some (([]:List JJ)++a)
def Cy (N:Nat) (a:(List Kv)):Option (List Kv):=
 chk (HQ (([]:List Kv).length+a.length) 64) <|
 some (([]:List Kv)++a)
def CS (N:Nat) (a:(List Gy)):Option (List Gy):=
 chk (HQ (([]:List Gy).length+a.length) 24) <|
 some (([]:List Gy)++a)
def D7 (N:Nat) (j:(List BC)) (l:(List BC)→Option AF):Nat→Int→(List BC)→Option AF
 |0,_,_=>none
 |s+1,a,b=>
 cond (decide (a<(↑j.length:Int))) (
 (ix b a).bind λq=>
 (ix b a).bind λm=>
 (BS N m.As).bind λd=>
 (ix b a).bind λg=>
 (ix (upd b a ({ g with As:=d})) a).bind λn=>
 (BS N n.Ae.Aw).bind λi=>
 (ix (upd b a ({ g with As:=d})) a).bind λc=>
 (ix (upd (upd b a ({ g with As:=d})) a ({ c with Ae:={ c.Ae with Aw:=i}})) a).bind λo=>
 (BS N o.Ae.Ax).bind λp=>
 (ix (upd (upd b a ({ g with As:=d})) a ({ c with Ae:={ c.Ae with Aw:=i}})) a).bind λk=>
 D7 N j l s (BT (a+1)) (upd (upd (upd b a ({ g with As:=d})) a ({ c with Ae:={ c.Ae with Aw:=i}})) a ({ k with Ae:={ k.Ae with Ax:=p}}))) (
 l b)
def Eg (N:Nat) (a:AF) (k:(List ByteArray)) (l:List Cj) (b:List BC):Option AF:=
 (Cx N a.Af).bind λc=>
 (Cn N a.Ah).bind λd=>
 (Cy N a.Ai).bind λg=>
 (CS N a.Ak).bind λi=>
 (BO N a.Aj).bind λj=>
 some (⟨a.F,k,a.K,l,b,c,d,g,i,j,a.L⟩:AF)
def Eh (N:Nat) (a:AF) (c:(List ByteArray)) (d:List Cj):Option AF:=
 (C0 N a.C).bind λb=>
 D7 N b (Eg N a c d) N 0 b
def D8 (N:Nat) (j:(List Cj)) (k:(List Cj)→Option AF):Nat→Int→(List Cj)→Option AF
 |0,_,_=>none
 |q+1,a,b=>
 cond (decide (a<(↑j.length:Int))) (
 (ix b a).bind λs=>
 (ix b a).bind λp=>
 (BS N p.Bm).bind λc=>
 (ix b a).bind λd=>
 (ix (upd b a ({ d with Bm:=c})) a).bind λl=>
 (BO N l.An).bind λg=>
 (ix (upd b a ({ d with Bm:=c})) a).bind λi=>
 (ix (upd (upd b a ({ d with Bm:=c})) a ({ i with An:=g})) a).bind λm=>
 (C1 N m.S).bind λn=>
 (ix (upd (upd b a ({ d with Bm:=c})) a ({ i with An:=g})) a).bind λo=>
 D8 N j k q (BT (a+1)) (upd (upd (upd b a ({ d with Bm:=c})) a ({ i with An:=g})) a ({ o with S:=n}))) (
 k b)
def Iu (N:Nat) (a:AF):Option AF:=
 (FQ N a.J).bind λc=>
 (Cm N a.A).bind λb=>
 D8 N b (Eh N a c) N 0 b
def Kc (N:Nat) (b:AF) (s:AI):Option (Option Eu):=
 (Gv N b).bind λa=>
 (cond (!a) (some true) ((Ka N b s).bind λc=>
 some (!c))).bind λd=>
 cond d (some none) ((Is N s).bind λg=>(Iu N b).bind λi=>some (some ⟨i,[(0,⟨-1,iQ,g,[]⟩)],1⟩))
def GX (N:Nat):Option Bool:=
 some true
def Du (N:Nat) (a:(List Int)) (b:(List Int)) (c:Option Bool):Nat→Int→Option Bool
 |0,_=>none
 |j+1,d=>
 cond (decide (d<(↑a.length:Int))) (
 (ix a d).bind λg=>
 (ix b d).bind λi=>
 cond (decide (g≠i)) (
 some false) (
 Du N a b c j (BT (d+1)))) (
 c)
def CQ (N:Nat) (a:(List Int)) (b:(List Int)):Option Bool:=
 cond (decide ((↑a.length:Int)≠(↑b.length:Int))) (
 some false) (
 Du N a b (GX N) N 0)
def JR (N:Nat) (c:DI):Option Bool:=
 (CQ N c.a c.b).bind λd=>
 some d
def CW (N:Nat):Option Bool:=
 some true
def CC (N:Nat) (a:(List Gz)) (b:(List Gz)) (c:Option Bool):Nat→Int→Option Bool
 |0,_=>none
 |j+1,d=>
 cond (decide (d<(↑a.length:Int))) (
 (ix a d).bind λg=>
 (ix b d).bind λi=>
 cond (!(RE g.v i.v)) (
 some false) (
 CC N a b c j (BT (d+1)))) (
 c)
def DT (N:Nat) (a:(List Gz)) (b:(List Gz)):Option Bool:=
 cond (decide ((↑a.length:Int)≠(↑b.length:Int))) (
 some false) (
 CC N a b (CW N) N 0)
def Es (N:Nat) (c:J6):Option Bool:=
 (DT N c.a c.b).bind λd=>
 some d
def Cs (N:Nat):Option Bool:=
 some true
def CM (N:Nat) (a:(List LK)) (b:(List LK)) (c:Option Bool):Nat→Int→Option Bool
 |0,_=>none
 |j+1,d=>
 cond (decide (d<(↑a.length:Int))) (
 (ix a d).bind λg=>
 (ix b d).bind λi=>
 cond (!(RE g.v i.v)) (
 some false) (
 CM N a b c j (BT (d+1)))) (
 c)
def Dk (N:Nat) (a:(List LK)) (b:(List LK)):Option Bool:=
 cond (decide ((↑a.length:Int)≠(↑b.length:Int))) (
 some false) (
 CM N a b (Cs N) N 0)
def FU (N:Nat) (c:NU):Option Bool:=
 (Dk N c.a c.b).bind λd=>
 some d
def Cd (N:Nat):Option Bool:=
 some true
def CH (N:Nat) (a:(List FL)) (b:(List FL)) (c:Option Bool):Nat→Int→Option Bool
 |0,_=>none
 |j+1,d=>
 cond (decide (d<(↑a.length:Int))) (
 (ix a d).bind λg=>
 (ix b d).bind λi=>
 cond (!(RE g.v i.v)) (
 some false) (
 CH N a b c j (BT (d+1)))) (
 c)
def DY (N:Nat) (a:(List FL)) (b:(List FL)):Option Bool:=
 cond (decide ((↑a.length:Int)≠(↑b.length:Int))) (
 some false) (
 CH N a b (Cd N) N 0)
def Ez (N:Nat) (c:LH):Option Bool:=
 (DY N c.a c.b).bind λd=>
 some d
def Ce (N:Nat):Option Bool:=
 some true
def CI (N:Nat) (a:(List Ix)) (b:(List Ix)) (c:Option Bool):Nat→Int→Option Bool
 |0,_=>none
 |j+1,d=>
 cond (decide (d<(↑a.length:Int))) (
 (ix a d).bind λg=>
 (ix b d).bind λi=>
 cond (!(RE g.v i.v)) (
 some false) (
 CI N a b c j (BT (d+1)))) (
 c)
def DZ (N:Nat) (a:(List Ix)) (b:(List Ix)):Option Bool:=
 cond (decide ((↑a.length:Int)≠(↑b.length:Int))) (
 some false) (
 CI N a b (Ce N) N 0)
def E4 (N:Nat) (c:LI):Option Bool:=
 (DZ N c.a c.b).bind λd=>
 some d
def Ir (N:Nat) (a:AN) (b:AN):Option Bool:=
 (JR N (⟨a.S,b.S⟩:DI)).bind λd=>
 (cond d ((Es N (⟨a.X,b.X⟩:J6)).bind λg=>
 some g) (some false)).bind λi=>
 (cond i ((FU N (⟨a.Y,b.Y⟩:NU)).bind λj=>
 some j) (some false)).bind λk=>
 (cond k ((Ez N (⟨a.U,b.U⟩:LH)).bind λl=>
 some l) (some false)).bind λm=>
 (cond m ((E4 N (⟨a.Ad,b.Ad⟩:LI)).bind λc=>
 some c) (some false)).bind λn=>
 some n
def DU (N:Nat) (a:(List Gz)):Option (List Gz):=
 chk (HQ (([]:List Gz).length+a.length) 16) <|
 some (([]:List Gz)++a)
def Dn (N:Nat) (a:(List LK)):Option (List LK):=
 chk (HQ (([]:List LK).length+a.length) 16) <|
 some (([]:List LK)++a)
def Da (N:Nat) (a:(List FL)):Option (List FL):=
 chk (HQ (([]:List FL).length+a.length) 32) <|
 some (([]:List FL)++a)
def Db (N:Nat) (a:(List Ix)):Option (List Ix):=
 chk (HQ (([]:List Ix).length+a.length) 32) <|
 some (([]:List Ix)++a)
def It (N:Nat) (a:AN):Option AN:=
 (BO N a.S).bind λb=>
 (DU N a.X).bind λc=>
 (Dn N a.Y).bind λd=>
 (Da N a.U).bind λg=>
 (Db N a.Ad).bind λi=>
 some (⟨b,c,d,g,i⟩:AN)
def GO (N:Nat) (a:AI) (d:List (List Int)):Option AI:=
 (BO N a.N).bind λg=>
 (BW N a.P).bind λi=>
 (BO N a.D).bind λb=>
 (BO N a.O).bind λc=>
 some (⟨a.B,d,g,a.I,i,b,c⟩:AI)
def GN (N:Nat) (b:AI) (d:(List (List Int))→Option AI):Nat→Int→(List (List Int))→Option AI
 |0,_,_=>none
 |j+1,a,c=>
 cond (decide (a<(↑b.H.length:Int))) (
 (ix b.H a).bind λg=>
 (BO N g).bind λi=>
 (ix c a).bind λk=>
 (ix c a).bind λl=>
 GN N b d j (BT (a+1)) (upd c a i)) (
 d c)
def Kn (N:Nat) (a:AI):Option AI:=
 chk (LU (↑a.H.length:Int) (↑a.H.length:Int) 24) <|
 GN N a (GO N a) N 0 (List.replicate ((↑a.H.length:Int):Int).toNat ([]:(List Int)))
def G4 (N:Nat) (a:A3) (b:Bool) (c:Bool):Option A3:=
 some (⟨a.Ab,a.Ac,b,c⟩:A3)
def Hj (N:Nat) (d:BC) (a:A3) (b:Int) (c:Bool→Bool→Option A3) (g:Bool):Option A3:=
 cond g (
 cond (decide (d.G=5)) (
 c a.Ay (decide (b=2))) (
 c a.Ay a.Am)) (
 c a.Ay a.Am)
def IS (N:Nat) (c:BC) (b:A3) (a:Int):Option A3:=
 cond (decide (a=0)) (
 G4 N b true b.Am) (
 cond (decide (a=1)) (
 G4 N b false b.Am) (
 cond (decide (a=2)) (
 Hj N c b a (G4 N b) (decide (a=2))) (
 Hj N c b a (G4 N b) (decide (a=3)))))
def Ic (N:Nat) (c:Int) (b:Int) (a:Int):Option Int:=
 cond (decide (c<b)) (
 some b) (
 cond (decide (a<c)) (
 some a) (
 some c))
def L9 (N:Nat) (a:A3) (b:Int):Option A3:=
 some ({ a with Ac:=b}:A3)
def J2 (N:Nat) (c:BC) (b:A3) (a:Int):Option A3:=
 cond (decide (c.W≠0)) (
 (Ic N a 0 c.W).bind λd=>
 L9 N b d) (
 L9 N b b.Ac)
def Hk (N:Nat) (b:Int) (a:Int):Option Int:=
 cond ((decide (a<0))&&(decide ((BT (9223372036854775807+a))<b))) (
 some 9223372036854775807) (
 cond ((decide (0<a))&&(decide (b<(BT ((-9223372036854775808)+a))))) (
 some (-9223372036854775808)) (
 some (BT (b-a))))
def Ib (N:Nat) (b:BC) (a:A3):Option A3:=
 cond a.Ay (
 some a) (
 (Hk N a.Ac a.Ab).bind λc=>
 (Hk N 0 b.Ag).bind λd=>
 (Ic N c d b.Ag).bind λg=>
 (H4 N a.Ab g).bind λi=>
 some ({ a with Ab:=i}:A3))
def HA (N:Nat) (a:Int) (b:Int→(List A3)→Option (List A3)) (c:List A3):Option (List A3):=
 b (BT (a+1)) c
def C8 (N:Nat) (p0_w:AM) (g:(List A3)→Option (List A3)):Nat→Int→(List A3)→Option (List A3)
 |0,_,_=>none
 |m+1,d,c=>
 cond (decide (d<(↑p0_w.in_.Y.length:Int))) (
 (ix p0_w.in_.Y d).bind λa=>
 (HR N a.Ar (↑p0_w.b.C.length:Int)).bind λi=>
 cond i (
 (ix p0_w.b.C a.Ar).bind λj=>
 (ix c a.Ar).bind λn=>
 (ix c a.Ar).bind λk=>
 (J2 N j k a.Ac).bind λl=>
 (ix c a.Ar).bind λo=>
 (ix c a.Ar).bind λp=>
 HA N d (C8 N p0_w g m) (upd c a.Ar l)) (
 HA N d (C8 N p0_w g m) c)) (
 g c)
def D1 (N:Nat) (p0_w:AM):Nat→Int→(List A3)→Option (List A3)
 |0,_,_=>none
 |m+1,a,c=>
 cond (decide (a<(↑p0_w.b.C.length:Int))) (
 (ix p0_w.b.C a).bind λd=>
 (ix c a).bind λj=>
 (ix c a).bind λg=>
 (Ib N d g).bind λi=>
 (ix c a).bind λk=>
 (ix c a).bind λl=>
 D1 N p0_w m (BT (a+1)) (upd c a i)) (
 some c)
def Dc (N:Nat) (p0_w:AM) (a:List A3):Option (List A3):=
 D1 N p0_w N 0 a
def Dd (N:Nat) (p0_w:AM) (a:List A3):Option (List A3):=
 C8 N p0_w (Dc N p0_w) N 0 a
def HB (N:Nat) (c:Int) (a:Int→(List A3)→Option (List A3)) (b:List A3):Option (List A3):=
 a (BT (c+1)) b
def C9 (N:Nat) (p0_w:AM) (c:(List A3)→Option (List A3)):Nat→Int→(List A3)→Option (List A3)
 |0,_,_=>none
 |m+1,g,d=>
 cond (decide (g<(↑p0_w.in_.X.length:Int))) (
 (ix p0_w.in_.X g).bind λa=>
 (HR N a.Ar (↑p0_w.b.C.length:Int)).bind λi=>
 cond i (
 (ix p0_w.b.C a.Ar).bind λj=>
 (ix d a.Ar).bind λn=>
 (ix d a.Ar).bind λk=>
 (IS N j k a.G).bind λl=>
 (ix d a.Ar).bind λo=>
 (ix d a.Ar).bind λp=>
 HB N g (C9 N p0_w c m) (upd d a.Ar l)) (
 HB N g (C9 N p0_w c m) d)) (
 c d)
def HS (N:Nat) (p0_w:AM):Option (List A3):=
 C9 N p0_w (Dd N p0_w) N 0 p0_w.s.P
def K7 (N:Nat) (b:(List Int)) (a:Int):Option Int:=
 (cond ((decide (a<0))||(decide ((↑b.length:Int)≤a))) (some true) ((ix b a).bind λd=>
 some (decide (d<0)))).bind λg=>
 cond g (
 some 0) (
 (ix b a).bind λc=>
 some c)
def LX (N:Nat) (a:List Int):Option (List Int):=
 some a
def MW (N:Nat) (a:(List Int)) (b:Int) (c:Int) (d:Int):Option (List Int):=
 chk (LU (↑a.length:Int) (↑a.length:Int) 8) <|
 (K7 N a b).bind λg=>
 cond ((((decide (0<(min d g)))&&(decide (0≤c)))&&(decide (c<(↑a.length:Int))))&&(decide (b≠c))) (
 (ix (Pr (List.replicate ((↑a.length:Int):Int).toNat (0:Int)) a) b).bind λl=>
 (ix (Pr (List.replicate ((↑a.length:Int):Int).toNat (0:Int)) a) b).bind λi=>
 (ix (Pr (List.replicate ((↑a.length:Int):Int).toNat (0:Int)) a) b).bind λm=>
 (ix (Pr (List.replicate ((↑a.length:Int):Int).toNat (0:Int)) a) b).bind λn=>
 (ix (upd (Pr (List.replicate ((↑a.length:Int):Int).toNat (0:Int)) a) b (BT (i-(min d g)))) c).bind λo=>
 (ix (upd (Pr (List.replicate ((↑a.length:Int):Int).toNat (0:Int)) a) b (BT (i-(min d g)))) c).bind λj=>
 (H4 N j (min d g)).bind λk=>
 (ix (upd (Pr (List.replicate ((↑a.length:Int):Int).toNat (0:Int)) a) b (BT (i-(min d g)))) c).bind λp=>
 (ix (upd (Pr (List.replicate ((↑a.length:Int):Int).toNat (0:Int)) a) b (BT (i-(min d g)))) c).bind λq=>
 LX N (upd (upd (Pr (List.replicate ((↑a.length:Int):Int).toNat (0:Int)) a) b (BT (i-(min d g)))) c k)) (
 LX N (Pr (List.replicate ((↑a.length:Int):Int).toNat (0:Int)) a))
def G9 (N:Nat) (c:Int) (a:Int→(List (List Int))→Option (List (List Int))) (b:List (List Int)):Option (List (List Int)):=
 a (BT (c+1)) b
def C7 (N:Nat) (p0_w:AM):Nat→Int→(List (List Int))→Option (List (List Int))
 |0,_,_=>none
 |o+1,d,c=>
 cond (decide (d<(↑p0_w.in_.Ad.length:Int))) (
 (ix p0_w.in_.Ad d).bind λa=>
 (HR N a.Ap (↑p0_w.b.A.length:Int)).bind λg=>
 (cond g ((HR N a.M (↑p0_w.b.J.length:Int)).bind λi=>
 some i) (some false)).bind λj=>
 (cond j ((HR N a.E (↑p0_w.b.J.length:Int)).bind λk=>
 some k) (some false)).bind λl=>
 cond l (
 (ix c a.Ap).bind λq=>
 (ix c a.Ap).bind λm=>
 (MW N m a.M a.E a.Be).bind λn=>
 (ix c a.Ap).bind λs=>
 (ix c a.Ap).bind λp=>
 G9 N d (C7 N p0_w o) (upd c a.Ap n)) (
 G9 N d (C7 N p0_w o) c)) (
 some c)
def Fw (N:Nat) (p0_w:AM):Option (List (List Int)):=
 C7 N p0_w N 0 p0_w.s.H
def Em (N:Nat) (p0_w:AM) (b:Int→Option ((List (List Int))×(List Int)×(List AX))):Nat→Int→Int→Option ((List (List Int))×(List Int)×(List AX))
 |0,_,_=>none
 |i+1,c,a=>
 cond (decide (a<(↑p0_w.s.I.length:Int))) (
 (ix p0_w.s.I a).bind λd=>
 (FC N d.V).bind λg=>
 Em N p0_w b i (BT (c+g)) (BT (a+1))) (
 b c)
def HZ (N:Nat) (p0_w:AM) (k:Int) (l:Int) (d:Int) (i:List AX) (g:List (List Int)) (c:List Int) (m:Int→Int→(List AX)→(List (List Int))→(List Int)→Option ((List (List Int))×(List Int)×(List AX))) (a:Int):Option ((List (List Int))×(List Int)×(List AX)):=
 cond (decide (a≤0)) (
 m k l i g c) (
 (ix g d).bind λp=>
 (ix g d).bind λj=>
 (ix j 0).bind λn=>
 (ix j 0).bind λq=>
 (ix c 0).bind λt=>
 (ix c 0).bind λo=>
 (ix c 0).bind λu=>
 (ix c 0).bind λv=>
 chk (LU (↑p0_w.b.J.length:Int) (↑p0_w.b.J.length:Int) 8) <|
 (ix (List.replicate ((↑p0_w.b.J.length:Int):Int).toNat (0:Int)) 0).bind λw=>
 (ix (List.replicate ((↑p0_w.b.J.length:Int):Int).toNat (0:Int)) 0).bind λx=>
 chk (HQ (i.length+([(⟨p0_w.s.B,(-1),d,(-4),(upd (List.replicate ((↑p0_w.b.J.length:Int):Int).toNat (0:Int)) 0 a)⟩:AX)]:List AX).length) 56) <|
 m (BT (k+a)) (BT (l+a)) (i++([(⟨p0_w.s.B,(-1),d,(-4),(upd (List.replicate ((↑p0_w.b.J.length:Int):Int).toNat (0:Int)) 0 a)⟩:AX)]:List AX)) (upd g d (upd j 0 (BT (n+a)))) (upd c 0 (BT (o+a))))
def Gb (N:Nat) (a:Int) (j:Int→Int→Int→(List AX)→(List (List Int))→(List Int)→Option ((List (List Int))×(List Int)×(List AX))) (b:Int) (c:Int) (d:List AX) (g:List (List Int)) (i:List Int):Option ((List (List Int))×(List Int)×(List AX)):=
 j b c (BT (a+1)) d g i
def DJ (N:Nat) (p0_w:AM):Nat→Int→Int→Int→(List AX)→(List (List Int))→(List Int)→Option ((List (List Int))×(List Int)×(List AX))
 |0,_,_,_,_,_,_=>none
 |l+1,c,d,a,g,i,j=>
 cond (decide (a<(↑p0_w.b.A.length:Int))) (
 cond (decide (a<(↑p0_w.in_.S.length:Int))) (
 (ix p0_w.in_.S a).bind λk=>
 HZ N p0_w c d a g i j (Gb N a (DJ N p0_w l)) (min (min k (BT (1125899906842624-c))) (BT (1152921504606846976-d)))) (
 HZ N p0_w c d a g i j (Gb N a (DJ N p0_w l)) 0)) (
 some (i,j,g))
def Eo (N:Nat) (p0_w:AM) (a:Int):Option ((List (List Int))×(List Int)×(List AX)):=
 (FC N p0_w.s.D).bind λb=>
 DJ N p0_w N a b 0 p0_w.moves p0_w.s.H p0_w.s.D
def Ep (N:Nat) (p0_w:AM) (a:Int):Option ((List (List Int))×(List Int)×(List AX)):=
 Em N p0_w (Eo N p0_w) N a 0
def En (N:Nat) (p0_w:AM) (b:Int→Option ((List (List Int))×(List Int)×(List AX))):Nat→Int→Int→Option ((List (List Int))×(List Int)×(List AX))
 |0,_,_=>none
 |i+1,g,a=>
 cond (decide (a<(↑p0_w.s.H.length:Int))) (
 (ix p0_w.s.H a).bind λj=>
 (ix p0_w.s.H a).bind λc=>
 (FC N c).bind λd=>
 En N p0_w b i (BT (g+d)) (BT (a+1))) (
 b g)
def Jo (N:Nat) (p0_w:AM):Option ((List (List Int))×(List Int)×(List AX)):=
 En N p0_w (Ep N p0_w) N 0 0
def IZ (N:Nat) (a:List Int):Option (List Int):=
 some a
def Gs (N:Nat) (c:(List Int)) (d:(List Int)→Option (List Int)):Nat→Int→(List Int)→Option (List Int)
 |0,_,_=>none
 |k+1,a,b=>
 cond (decide (a<(↑c.length:Int))) (
 (ix c a).bind λg=>
 (ix b a).bind λl=>
 (ix b a).bind λi=>
 (H4 N i g).bind λj=>
 (ix b a).bind λm=>
 (ix b a).bind λn=>
 Gs N c d k (BT (a+1)) (upd b a j)) (
 d b)
def Hr (N:Nat) (a:(List Int)) (b:(List Int)):Option (List Int):=
 chk (LU (max (↑a.length:Int) (↑b.length:Int)) (max (↑a.length:Int) (↑b.length:Int)) 8) <|
 Gs N b (IZ N) N 0 (Pr (List.replicate ((max (↑a.length:Int) (↑b.length:Int)):Int).toNat (0:Int)) a)
def KQ (N:Nat) (a:Int) (b:(List AT)→Int→(List (List Int))→Option ((List (List Int))×(List AT))) (c:List AT) (d:List (List Int)):Option ((List (List Int))×(List AT)):=
 b c (BT (a+1)) d
def Gr (N:Nat) (d:(List AT)) (b:Int) (n:Int) (k:(List AT)→(List (List Int))→Option ((List (List Int))×(List AT))):Nat→(List AT)→Int→(List (List Int))→Option ((List (List Int))×(List AT))
 |0,_,_,_=>none
 |o+1,g,i,c=>
 cond (decide (i<(↑d.length:Int))) (
 (ix d i).bind λa=>
 cond (((decide (a.At≤b))&&(decide (0≤a.E)))&&(decide (a.E<n))) (
 (ix c a.E).bind λp=>
 (ix c a.E).bind λl=>
 (Hr N l a.V).bind λm=>
 (ix c a.E).bind λq=>
 (ix c a.E).bind λs=>
 KQ N i (Gr N d b n k o) g (upd c a.E m)) (
 (BO N a.V).bind λj=>
 chk (HQ (g.length+([({ a with V:=j}:AT)]:List AT).length) 40) <|
 KQ N i (Gr N d b n k o) (g++([({ a with V:=j}:AT)]:List AT)) c)) (
 k g c)
def Ip (N:Nat) (a:List AT) (b:List (List Int)):Option ((List (List Int))×(List AT)):=
 some (b,a)
def HV (N:Nat) (b:(List AT)) (a:Int) (d:Int) (c:List (List Int)):Option ((List (List Int))×(List AT)):=
 Gr N b a d (Ip N) N ([]:List AT) 0 c
def HU (N:Nat) (g:Int) (d:Int) (c:(List (List Int))→Option ((List (List Int))×(List AT))):Nat→Int→(List (List Int))→Option ((List (List Int))×(List AT))
 |0,_,_=>none
 |i+1,a,b=>
 cond (decide (a<(↑(List.replicate (g:Int).toNat ([]:(List Int))).length:Int))) (
 chk (LU d d 8) <|
 (ix b a).bind λj=>
 (ix b a).bind λk=>
 HU N g d c i (BT (a+1)) (upd b a (List.replicate (d:Int).toNat (0:Int)))) (
 c b)
def MU (N:Nat) (d:(List AT)) (c:Int) (a:Int) (b:Int):Option ((List (List Int))×(List AT)):=
 (Ic N a 0 64).bind λg=>
 (Ic N b 0 16).bind λi=>
 chk (LU g g 24) <|
 HU N g i (HV N d c g) N 0 (List.replicate (g:Int).toNat ([]:(List Int)))
def Jq (N:Nat) (a:A3) (b:Bool):Option A3:=
 some ({ a with Am:=b}:A3)
def Hz (N:Nat) (b:BC) (a:A3) (c:Int):Option A3:=
 cond (decide (b.G≠3)) (
 some a) (
 cond (decide (b.Az≤c)) (
 Jq N a true) (
 cond (decide (c≤b.Ba)) (
 Jq N a false) (
 Jq N a a.Am)))
def F5 (N:Nat) (a:Int) (c:Int→(List A3)→Option ((List (List Int))×(List AT)×(List A3)×(List Int))) (b:List A3):Option ((List (List Int))×(List AT)×(List A3)×(List Int)):=
 c (BT (a+1)) b
def Co (N:Nat) (p0_w:AM) (j:(List (List Int))×(List AT)) (i:List (List Int)) (d:List Int):Nat→Int→(List A3)→Option ((List (List Int))×(List AT)×(List A3)×(List Int))
 |0,_,_=>none
 |n+1,a,c=>
 cond (decide (a<(↑p0_w.b.C.length:Int))) (
 (ix p0_w.b.C a).bind λg=>
 cond (decide (g.G=3)) (
 (ix c a).bind λo=>
 (ix c a).bind λk=>
 (ix d g.M).bind λp=>
 (ix d g.M).bind λl=>
 (Hz N g k l).bind λm=>
 (ix c a).bind λq=>
 (ix c a).bind λs=>
 F5 N a (Co N p0_w j i d n) (upd c a m)) (
 F5 N a (Co N p0_w j i d n) c)) (
 some (i,j.2,c,d))
def DP (N:Nat) (p0_w:AM) (c:(List (List Int))×(List AT)) (a:List (List Int)) (b:List Int):Option ((List (List Int))×(List AT)×(List A3)×(List Int)):=
 Co N p0_w c a b N 0 p0_w.s.P
def DA (N:Nat) (p0_w:AM) (i:(List (List Int))×(List AT)) (j:(List (List Int))→(List Int)→Option ((List (List Int))×(List AT)×(List A3)×(List Int))):Nat→Int→(List (List Int))→(List Int)→Option ((List (List Int))×(List AT)×(List A3)×(List Int))
 |0,_,_,_=>none
 |w+1,a,c,d=>
 cond (decide (a<(↑p0_w.b.A.length:Int))) (
 (ix c a).bind λo=>
 (ix c a).bind λk=>
 (ix i.1 a).bind λp=>
 (ix i.1 a).bind λl=>
 (Hr N k l).bind λg=>
 (ix c a).bind λq=>
 (ix c a).bind λs=>
 (ix (upd c a g) a).bind λt=>
 (ix (upd c a g) a).bind λm=>
 (FC N m).bind λn=>
 (ix d a).bind λu=>
 (ix d a).bind λv=>
 DA N p0_w i j w (BT (a+1)) (upd c a g) (upd d a n)) (
 j c d)
def F9 (N:Nat) (p0_w:AM):Option ((List (List Int))×(List AT)×(List A3)×(List Int)):=
 (MU N p0_w.s.I p0_w.s.B (↑p0_w.b.A.length:Int) (↑p0_w.b.J.length:Int)).bind λa=>
 DA N p0_w a (DP N p0_w a) N 0 p0_w.s.H p0_w.peaks
def H9 (N:Nat) (a:List Int):Option (List Int):=
 some a
def Gh (N:Nat) (a:(List Int)) (d:(List Int)→Option (List Int)):Nat→Int→(List Int)→Option (List Int)
 |0,_,_=>none
 |j+1,b,c=>
 cond (decide (b<(↑a.length:Int))) (
 (ix a b).bind λg=>
 (ix c b).bind λk=>
 (ix c b).bind λi=>
 (ix c b).bind λl=>
 (ix c b).bind λm=>
 Gh N a d j (BT (b+1)) (upd c b (BT (i-g)))) (
 d c)
def Iq (N:Nat) (a:(List Int)) (b:(List Int)):Option (List Int):=
 chk (LU (↑a.length:Int) (↑a.length:Int) 8) <|
 Gh N b (H9 N) N 0 (Pr (List.replicate ((↑a.length:Int):Int).toNat (0:Int)) a)
def Jr (N:Nat) (a:(List Int)) (b:List Int):Option ((List Int)×(List Int)):=
 (Iq N a b).bind λc=>
 some (b,c)
def MY (N:Nat) (b:(List Int)) (a:Int) (c:Int):Option ((List Int)×(List Int)):=
 chk (LU (↑b.length:Int) (↑b.length:Int) 8) <|
 (K7 N b a).bind λd=>
 cond (decide (0<(min c d))) (
 (ix (List.replicate ((↑b.length:Int):Int).toNat (0:Int)) a).bind λg=>
 (ix (List.replicate ((↑b.length:Int):Int).toNat (0:Int)) a).bind λi=>
 Jr N b (upd (List.replicate ((↑b.length:Int):Int).toNat (0:Int)) a (min c d))) (
 Jr N b (List.replicate ((↑b.length:Int):Int).toNat (0:Int)))
def EI (N:Nat) (b:FL) (a:(List Int)):Option ((List Int)×(List Int)):=
 (MY N a b.Bj b.Be).bind λc=>
 some (c.1,c.2)
def D0 (N:Nat) (a:List AC):Option (List AC):=
 some a
def G8 (N:Nat) (a:Int) (b:(List AC)→Int→Option (List AC)) (c:List AC):Option (List AC):=
 b c (BT (a+1))
def Cq (N:Nat) (p0_w:AM) (a:Int) (g:(List AC)→Option (List AC)):Nat→(List AC)→Int→Option (List AC)
 |0,_,_=>none
 |j+1,i,d=>
 cond (decide (d<(↑p0_w.in_.U.length:Int))) (
 (ix p0_w.in_.U d).bind λc=>
 (cond (decide (c.Ap≠a)) (some true) ((HR N c.Bj (↑p0_w.b.J.length:Int)).bind λk=>
 some (!k))).bind λl=>
 cond (l||(decide (c.Be≤0))) (
 G8 N d (Cq N p0_w a g j) i) (
 (cond (decide (c.E≠(-1))) ((HR N c.E (↑p0_w.b.A.length:Int)).bind λm=>
 (cond (!m) (some true) ((ix p0_w.b.A c.E).bind λn=>
 (ix p0_w.b.A a).bind λo=>
 some (decide (n.Au≠o.Au)))).bind λp=>
 some p) (some false)).bind λq=>
 cond q (
 G8 N d (Cq N p0_w a g j) i) (
 chk (HQ (i.length+1) 32) <|
 G8 N d (Cq N p0_w a g j) (i++([(⟨c.E,0,(-3),(λx=>EI N c x)⟩:AC)]:List AC))))) (
 g i)
def JN (N:Nat) (p0_w:AM) (a:Int):Option (List AC):=
 Cq N p0_w a (D0 N) N ([]:List AC) 0
def Ia (N:Nat) (c:Int) (a:Int) (b:Int):Option Int:=
 (Gt N c a b).bind λd=>
 cond (!d.2.2) (
 some 0) (
 some d.1)
def MZ (N:Nat) (b:BC) (a:Int) (c:Int):Option Int:=
 cond (decide (b.E=(-1))) (
 some a) (
 (Ia N c b.Aq b.Al).bind λd=>
 (Hk N a d).bind λg=>
 some (max 0 g))
def NL (N:Nat) (a:(List Bz)) (b:Int):Option Int:=
 (Fe N a).bind λc=>
 cond (!c) (
 some 0) (
 (Jf N a b).bind λd=>
 some d.1)
def Jt (N:Nat):Option Int:=
 some 0
def Js (N:Nat) (a:BC) (b:Int):Option Int:=
 (Hk N b a.Bd).bind λd=>
 (Ia N (max 0 d) a.Aa a.T).bind λc=>
 some c
def Lb (N:Nat) (a:Bool) (b:Option Int):Option Int:=
 cond (!a) (
 some 0) (
 b)
def La (N:Nat) (c:BC) (a:Bool) (b:Int) (d:Option Int):Option Int:=
 cond a (
 (Ia N b c.Aa c.T).bind λg=>
 some g) (
 d)
def LZ (N:Nat) (b:BC) (a:Int):Option Int:=
 (Ia N b.Aa a b.W).bind λc=>
 some c
def LY (N:Nat) (a:BC) (c:Int) (g:(List Bz)) (b:Int) (d:Int):Option Int:=
 (MZ N a b d).bind λi=>
 (NL N g i).bind λj=>
 (Ia N j c a.W).bind λk=>
 (H4 N k a.Bc).bind λl=>
 some l
def Ma (N:Nat) (a:BC) (d:Int) (c:Bool) (i:(List Bz)) (b:Int) (g:Int):Option Int:=
 cond (decide (a.G=0)) (
 LY N a d i b g) (
 cond (decide (a.G=2)) (
 LZ N a d) (
 cond (decide (a.G=3)) (
 La N a c b (Jt N)) (
 cond (decide (a.G=5)) (
 Lb N c (Js N a b)) (
 cond (decide (a.G=1)) (
 Js N a b) (
 Jt N)))))
def NK (N:Nat) (b:BC) (c:A3) (a:Int) (d:Int):Option Int:=
 (Ma N b c.Ab c.Am b.As a d).bind λg=>
 some g
def Hy (N:Nat) (a:Int):Option Int:=
 some a
def GQ (N:Nat) (c:Int) (a:(List Int)) (n:Int) (k:Int→(List Int)→(List Int)→(List Int)→Option ((List Int)×Bool)):Nat→Int→Int→(List Int)→(List Int)→(List Int)→Option ((List Int)×Bool)
 |0,_,_,_,_,_=>none
 |v+1,l,b,g,i,j=>
 cond (decide (b<(↑a.length:Int))) (
 (ix a b).bind λm=>
 (Gt N c m n).bind λd=>
 (ix j b).bind λo=>
 (ix j b).bind λp=>
 (ix i b).bind λq=>
 (ix i b).bind λs=>
 (ix g b).bind λt=>
 (ix g b).bind λu=>
 GQ N c a n k v (BT (l-d.1)) (BT (b+1)) (upd g b b) (upd i b d.2.1) (upd j b d.1)) (
 k l g i j)
def GP (N:Nat) (c:List Int) (g:(List Int)→Option ((List Int)×Bool)):Nat→Int→(List Int)→Option ((List Int)×Bool)
 |0,_,_=>none
 |m+1,d,a=>
 cond (decide (d<(↑c.length:Int))) (
 (ix c d).bind λb=>
 (ix a b).bind λj=>
 (ix a b).bind λi=>
 (ix a b).bind λk=>
 (ix a b).bind λl=>
 GP N c g m (BT (d+1)) (upd a b (BT (i+1)))) (
 g a)
def Hs (N:Nat) (a:List Int):Option ((List Int)×Bool):=
 some (a,true)
def GS (N:Nat) (c:Int) (d:List Int) (g:List Int) (i:List Int):Option ((List Int)×Bool):=
 (TD d g).bind λa=>
 (Aac a c).bind λb=>
 GP N b (Hs N) N 0 i
def GT (N:Nat) (b:Int) (a:(List Int)) (c:Int):Option ((List Int)×Bool):=
 cond ((decide (b<0))||(decide (c<b))) (
 some (([]:List Int),false)) (
 chk (LU (↑a.length:Int) (↑a.length:Int) 8) <|
 cond (decide (c=0)) (
 some ((List.replicate ((↑a.length:Int):Int).toNat (0:Int)),true)) (
 chk (LU (↑a.length:Int) (↑a.length:Int) 8) <|
 chk (LU (↑a.length:Int) (↑a.length:Int) 8) <|
 GQ N b a c (GS N) N b 0 (List.replicate ((↑a.length:Int):Int).toNat (0:Int)) (List.replicate ((↑a.length:Int):Int).toNat (0:Int)) (List.replicate ((↑a.length:Int):Int).toNat (0:Int))))
def GR (N:Nat) (a:(List Int)) (g:Int→Option ((List Int)×Bool)):Nat→Int→Int→Option ((List Int)×Bool)
 |0,_,_=>none
 |i+1,b,c=>
 cond (decide (c<(↑a.length:Int))) (
 (ix a c).bind λd=>
 cond ((decide (d<0))||(decide ((BT (1125899906842624-b))<d))) (
 some (([]:List Int),false)) (
 GR N a g i (BT (b+d)) (BT (c+1)))) (
 g b)
def Kp (N:Nat) (b:Int) (a:(List Int)):Option ((List Int)×Bool):=
 cond (decide (64<(↑a.length:Int))) (
 some (([]:List Int),false)) (
 GR N a (GT N b a) N 0 0)
def H3 (N:Nat) (a:(List Int)) (b:List Int):Option ((List Int)×(List Int)):=
 (Iq N a b).bind λc=>
 some (b,c)
def KR (N:Nat) (a:(List Int)→Option ((List Int)×(List Int))) (b:List Int):Option ((List Int)×(List Int)):=
 a b
def MV (N:Nat) (a:(List Int)) (b:Int):Option ((List Int)×(List Int)):=
 chk (LU (↑a.length:Int) (↑a.length:Int) 8) <|
 (cond ((decide (0<b))&&(decide ((↑a.length:Int)≤64))) ((JP N a).bind λd=>
 some d) (some false)).bind λg=>
 cond g (
 (FC N a).bind λi=>
 (Kp N (min b i) a).bind λc=>
 cond c.2 (
 KR N (H3 N a) (Pr (List.replicate ((↑a.length:Int):Int).toNat (0:Int)) c.1)) (
 KR N (H3 N a) (List.replicate ((↑a.length:Int):Int).toNat (0:Int)))) (
 H3 N a (List.replicate ((↑a.length:Int):Int).toNat (0:Int)))
def AL (N:Nat) (b:Int) (a:(List Int)):Option ((List Int)×(List Int)):=
 (MV N a b).bind λc=>
 some (c.1,c.2)
def LO (N:Nat) (c:Int) (a:Int) (b:Int):Option Int:=
 (Gt N c a b).bind λd=>
 cond (!d.2.2) (
 some 0) (
 some d.1)
def L0 (N:Nat) (a:BC) (b:Int) (c:Int):Option Int:=
 cond (decide (a.G≠4)) (
 some 0) (
 (LO N b a.Aa a.T).bind λd=>
 (LO N c a.Aq a.Al).bind λg=>
 some (BT (d-g)))
def D2 (N:Nat) (a:List AC):Option (List AC):=
 some a
def H2 (N:Nat) (p0_w:AM) (c:Int) (m:List AC) (b:Int) (a:BC) (g:(List AC)→Option (List AC)) (i:Int):Option (List AC):=
 (ix p0_w.s.P b).bind λn=>
 (ix p0_w.s.P b).bind λj=>
 (ix p0_w.peaks c).bind λo=>
 (ix p0_w.peaks c).bind λk=>
 (NK N a j k i).bind λl=>
 (Hy N l).bind λd=>
 chk (HQ (m.length+([(⟨a.E,a.R,b,(λx=>AL N d x)⟩:AC)]:List AC).length) 32) <|
 g (m++([(⟨a.E,a.R,b,(λx=>AL N d x)⟩:AC)]:List AC))
def EN (N:Nat) (a:Int) (b:(List AC)→Int→Option (List AC)) (c:List AC):Option (List AC):=
 b c (BT (a+1))
def CP (N:Nat) (p0_w:AM) (c:Int) (g:(List AC)→Option (List AC)):Nat→(List AC)→Int→Option (List AC)
 |0,_,_=>none
 |l+1,i,d=>
 cond (decide (d<(↑p0_w.b.C.length:Int))) (
 (ix p0_w.b.C d).bind λa=>
 cond ((decide (a.M=c))&&(decide (a.G≠4))) (
 cond (decide (a.E≠(-1))) (
 (ix p0_w.peaks a.E).bind λA=>
 (ix p0_w.peaks a.E).bind λu=>
 H2 N p0_w c i d a (EN N d (CP N p0_w c g l)) u) (
 H2 N p0_w c i d a (EN N d (CP N p0_w c g l)) 0)) (
 cond (decide (a.M=c)) (
 (ix p0_w.peaks c).bind λv=>
 (ix p0_w.peaks c).bind λm=>
 (ix p0_w.peaks a.E).bind λw=>
 (ix p0_w.peaks a.E).bind λn=>
 (L0 N a m n).bind λo=>
 (Hy N o).bind λj=>
 chk (HQ (i.length+([(⟨a.E,a.R,d,(λx=>AL N j x)⟩:AC)]:List AC).length) 32) <|
 EN N d (CP N p0_w c g l) (i++([(⟨a.E,a.R,d,(λx=>AL N j x)⟩:AC)]:List AC))) (
 cond ((decide (a.E=c))&&(decide (a.G=4))) (
 (ix p0_w.peaks a.M).bind λy=>
 (ix p0_w.peaks a.M).bind λp=>
 (ix p0_w.peaks c).bind λz=>
 (ix p0_w.peaks c).bind λq=>
 (L0 N a p q).bind λs=>
 (Hk N 0 s).bind λt=>
 (Hy N t).bind λk=>
 chk (HQ (i.length+([(⟨a.M,a.R,d,(λx=>AL N k x)⟩:AC)]:List AC).length) 32) <|
 EN N d (CP N p0_w c g l) (i++([(⟨a.M,a.R,d,(λx=>AL N k x)⟩:AC)]:List AC))) (
 EN N d (CP N p0_w c g l) i)))) (
 g i)
def JO (N:Nat) (p0_w:AM) (a:Int):Option (List AC):=
 CP N p0_w a (D2 N) N ([]:List AC) 0
def Ca (N:Nat) (a:List AC):Option (List AC):=
 some a
def Cr (N:Nat) (a:Int):Option (List AC):=
 cond (decide (a<0)) (
 none) (
 cond (decide (0<(BT (a-(BT (0-0)))))) (
 chk (decide (0<(BT (a-(BT (0-0)))))) <|
 chk (HQ ((BT (a-(BT (0-0)))):Int).toNat 32) <|
 Ca N ([]:List AC)) (
 Ca N ([]:List AC)))
def B8 (N:Nat) (a:(List (List AC))) (d:(List AC)→Option (List AC)):Nat→(List AC)→Int→Option (List AC)
 |0,_,_=>none
 |i+1,b,c=>
 cond (decide (c<(↑a.length:Int))) (
 (ix a c).bind λg=>
 chk (HQ (b.length+g.length) 32) <|
 B8 N a d i (b++g) (BT (c+1))) (
 d b)
def DC (N:Nat) (a:List AC):Option (List AC):=
 some a
def CR (N:Nat) (a:(List (List AC))) (c:Int):Option (List AC):=
 (Cr N c).bind λb=>
 B8 N a (DC N) N b 0
def B9 (N:Nat) (a:(List (List AC))) (c:Int→Option (List AC)):Nat→Int→Int→Option (List AC)
 |0,_,_=>none
 |i+1,g,b=>
 cond (decide (b<(↑a.length:Int))) (
 (ix a b).bind λd=>
 cond (decide ((BT (g+(↑d.length:Int)))<0)) (
 none) (
 B9 N a c i (BT (g+(↑d.length:Int))) (BT (b+1)))) (
 c g)
def Cg (N:Nat) (a:(List (List AC))):Option (List AC):=
 B9 N a (CR N a) N 0 0
def Ey (N:Nat):Option Int:=
 some (-1)
def Dg (N:Nat) (a:(List Int)) (b:(Int→Option Bool)) (c:Option Int):Nat→Int→Option Int
 |0,_=>none
 |j+1,d=>
 cond (decide (d<(↑a.length:Int))) (
 (ix a d).bind λg=>
 (b g).bind λi=>
 cond i (
 some d) (
 Dg N a b c j (BT (d+1)))) (
 c)
def GA (N:Nat) (a:(List Int)) (b:(Int→Option Bool)):Option Int:=
 Dg N a b (Ey N) N 0
def Gg (N:Nat) (a:(List Int)) (b:(Int→Option Bool)):Option Bool:=
 (GA N a b).bind λc=>
 some (decide (0≤c))
def Io (N:Nat) (a:Int):Option Bool:=
 some (decide (0<a))
def LW (N:Nat) (c:Int) (b:Int) (a:(List Int)):Option (List AT):=
 (cond (decide (b<0)) (some true) ((Gg N a (λx=>Io N x)).bind λg=>
 some (!g))).bind λi=>
 cond i (
 some ([]:List AT)) (
 (BO N a).bind λd=>
 chk (HQ (([]:List AT).length+1) 40) <|
 some (([]:List AT)++([(⟨c,b,d⟩:AT)]:List AT)))
def Hp (N:Nat) (p0_w:AM) (a:Int) (b:AC):Option ((List (List Int))×(List Int)×(List AX)×(List AT)):=
 (ix p0_w.s.H a).bind λm=>
 (ix p0_w.s.H a).bind λj=>
 (b.take j).bind λc=>
 (ix p0_w.s.H a).bind λk=>
 (ix p0_w.s.H a).bind λl=>
 (FC N c.1).bind λg=>
 cond (decide (g≤0)) (
 some ((upd p0_w.s.H a c.2),p0_w.s.O,p0_w.moves,p0_w.sent)) (
 chk (HQ (p0_w.moves.length+([(⟨p0_w.s.B,a,b.to_,b.way,c.1⟩:AX)]:List AX).length) 56) <|
 cond (decide (b.to_=(-1))) (
 (Hr N p0_w.s.O c.1).bind λi=>
 some ((upd p0_w.s.H a c.2),i,(p0_w.moves++([(⟨p0_w.s.B,a,b.to_,b.way,c.1⟩:AX)]:List AX)),p0_w.sent)) (
 (LW N (BT ((BT (p0_w.s.B+1))+b.delay)) b.to_ c.1).bind λd=>
 chk (HQ (p0_w.sent.length+d.length) 40) <|
 some ((upd p0_w.s.H a c.2),p0_w.s.O,(p0_w.moves++([(⟨p0_w.s.B,a,b.to_,b.way,c.1⟩:AX)]:List AX)),(p0_w.sent++d))))
def Hq (N:Nat) (a:Cj) (b:Int×Int×Bool) (c:Int):Option (Int×Int):=
 cond (decide ((BT (b.2.1+c))<a.T)) (
 some (b.1,(BT (b.2.1+c)))) (
 some ((BT (b.1+1)),(BT ((BT (b.2.1+c))-a.T))))
def Je (N:Nat) (a:Cj) (d:Int) (b:Int):Option (Int×Int):=
 (Gt N d a.Aa a.T).bind λc=>
 cond (!c.2.2) (
 some (0,0)) (
 cond ((decide (0≤b))&&(decide (b<a.T))) (
 Hq N a c b) (
 Hq N a c 0))
def Ex (N:Nat) (p0_w:AM) (d:Int) (o:Cj) (g:List (List Int)) (i:List Int) (j:List AX) (k:List AT) (l:Int×Int) (n:(List (List Int))→(List Int)→(List AX)→(List AT)→(List Int)→Option ((List (List Int))×(List Int)×(List Int)×(List AX)×(List AT))) (c:List Int):Option ((List (List Int))×(List Int)×(List Int)×(List AX)×(List AT)):=
 (Hy N l.1).bind λm=>
 (Hp N (⟨p0_w.b,p0_w.in_,(⟨p0_w.s.B,g,c,p0_w.s.I,p0_w.s.P,p0_w.s.D,i⟩:AI),j,p0_w.peaks,k⟩:AM) d (⟨o.Ao,o.R,(-1),(λx=>AL N m x)⟩:AC)).bind λa=>
 n a.1 a.2.1 a.2.2.1 a.2.2.2 c
def DN (N:Nat) (p0_w:AM) (d:Int) (o:Cj) (a:List (List Int)) (i:List Int) (j:List AX) (k:List AT) (g:List Int):Option ((List (List Int))×(List Int)×(List Int)×(List AX)×(List AT)):=
 (ix a d).bind λp=>
 (ix a d).bind λm=>
 (FC N m).bind λl=>
 cond (decide (0<(BT (l-o.Av)))) (
 (Hy N (BT (l-o.Av))).bind λn=>
 (Hp N (⟨p0_w.b,p0_w.in_,(⟨p0_w.s.B,a,g,p0_w.s.I,p0_w.s.P,p0_w.s.D,i⟩:AI),j,p0_w.peaks,k⟩:AM) d (⟨o.Ao,o.R,(-2),(λx=>AL N n x)⟩:AC)).bind λc=>
 some (c.1,g,c.2.1,c.2.2.1,c.2.2.2)) (
 some (a,g,i,j,k))
def F8 (N:Nat) (p0_w:AM) (a:Int) (j:Cj) (b:List (List Int)) (d:List Int) (g:List AX) (i:List AT):Option ((List (List Int))×(List Int)×(List Int)×(List AX)×(List AT)):=
 cond (decide (j.T≠0)) (
 (ix p0_w.peaks a).bind λo=>
 (ix p0_w.peaks a).bind λk=>
 (ix p0_w.s.N a).bind λp=>
 (ix p0_w.s.N a).bind λl=>
 (Je N j k l).bind λc=>
 (ix p0_w.s.N a).bind λq=>
 (ix p0_w.s.N a).bind λt=>
 (ix b a).bind λu=>
 (ix b a).bind λm=>
 (FC N m).bind λn=>
 cond (decide (c.1≤n)) (
 (ix (upd p0_w.s.N a 0) a).bind λv=>
 (ix (upd p0_w.s.N a 0) a).bind λw=>
 Ex N p0_w a j b d g i c (DN N p0_w a j) (upd (upd p0_w.s.N a 0) a c.2)) (
 Ex N p0_w a j b d g i c (DN N p0_w a j) (upd p0_w.s.N a 0))) (
 DN N p0_w a j b d g i p0_w.s.N)
def De (N:Nat) (p0_w:AM) (g:Int) (d:(List AC)) (m:(List (List Int))→(List Int)→(List AX)→(List AT)→Option ((List (List Int))×(List Int)×(List Int)×(List AX)×(List AT))):Nat→Int→(List (List Int))→(List Int)→(List AX)→(List AT)→Option ((List (List Int))×(List Int)×(List Int)×(List AX)×(List AT))
 |0,_,_,_,_,_=>none
 |p+1,a,i,j,k,l=>
 cond (decide (a<(↑d.length:Int))) (
 (ix d a).bind λo=>
 (ix d a).bind λn=>
 (Hp N (⟨p0_w.b,p0_w.in_,(⟨p0_w.s.B,i,p0_w.s.N,p0_w.s.I,p0_w.s.P,p0_w.s.D,j⟩:AI),k,p0_w.peaks,l⟩:AM) g n).bind λc=>
 De N p0_w g d m p (BT (a+1)) c.1 c.2.1 c.2.2.1 c.2.2.2) (
 m i j k l)
def HT (N:Nat) (p0_w:AM) (a:Int):Option ((List (List Int))×(List Int)×(List Int)×(List AX)×(List AT)):=
 (ix p0_w.b.A a).bind λi=>
 (JN N p0_w a).bind λc=>
 (JO N p0_w a).bind λd=>
 (Cg N ([c,d]:List (List AC))).bind λg=>
 De N p0_w a g (F8 N p0_w a i) N 0 p0_w.s.H p0_w.s.O p0_w.moves p0_w.sent
def FP (N:Nat) (k:AI) (c:(List (List Int))×(List Int)×(List AX)) (a:(List (List Int))×(List AT)×(List A3)×(List Int)) (d:List (List Int)) (g:List Int) (i:List Int) (j:List AX) (b:List AT):Option (AI×(List AX)×(List Int)):=
 chk (HQ (a.2.1.length+b.length) 40) <|
 some ((⟨(BT (k.B+1)),d,g,(a.2.1++b),a.2.2.1,c.2.1,i⟩:AI),j,a.2.2.2)
def FO (N:Nat) (c:AF) (d:AN) (o:AI) (i:(List (List Int))×(List Int)×(List AX)) (b:(List (List Int))×(List AT)×(List A3)×(List Int)) (p:(List (List Int))→(List Int)→(List Int)→(List AX)→(List AT)→Option (AI×(List AX)×(List Int))):Nat→Int→(List (List Int))→(List Int)→(List Int)→(List AX)→(List AT)→Option (AI×(List AX)×(List Int))
 |0,_,_,_,_,_,_=>none
 |q+1,g,j,k,l,m,n=>
 cond (decide (g<(↑c.A.length:Int))) (
 (HT N (⟨c,d,(⟨o.B,j,k,b.2.1,b.2.2.1,i.2.1,l⟩:AI),m,b.2.2.2,n⟩:AM) g).bind λa=>
 FO N c d o i b p q (BT (g+1)) a.1 a.2.1 a.2.2.1 a.2.2.2.1 a.2.2.2.2) (
 p j k l m n)
def Hg (N:Nat) (a:AF) (j:AI) (c:AN):Option (AI×(List AX)×(List Int)):=
 (Kn N j).bind λb=>
 chk (LU (↑a.A.length:Int) (↑a.A.length:Int) 8) <|
 (HS N (⟨a,c,b,([]:List AX),(List.replicate ((↑a.A.length:Int):Int).toNat (0:Int)),([]:List AT)⟩:AM)).bind λg=>
 (Fw N (⟨a,c,({ b with P:=g}:AI),([]:List AX),(List.replicate ((↑a.A.length:Int):Int).toNat (0:Int)),([]:List AT)⟩:AM)).bind λk=>
 (Jo N (⟨a,c,(⟨b.B,k,b.N,b.I,g,b.D,b.O⟩:AI),([]:List AX),(List.replicate ((↑a.A.length:Int):Int).toNat (0:Int)),([]:List AT)⟩:AM)).bind λd=>
 (F9 N (⟨a,c,(⟨b.B,d.1,b.N,b.I,g,d.2.1,b.O⟩:AI),d.2.2,(List.replicate ((↑a.A.length:Int):Int).toNat (0:Int)),([]:List AT)⟩:AM)).bind λi=>
 FO N a c b d i (FP N b d i) N 0 i.1 b.N b.O d.2.2 ([]:List AT)
def Eq (N:Nat) (vs:List (Int×DL)) (p:Int) (ks:List Int) (inp:AN) (fd:Int→Option (Int×Int×Option Eu)) (kj:Option (Int×Int×Option Eu)):Nat→Int→Option (Int×Int×Option Eu)
 |0,_=>none
 |n+1,i=>cond (decide (i<(ks.length:Int))) ((ix ks i).bind λk=>cond (decide (k=p)) none ((CV vs k).bind λx=>(Ir N x.inp inp).bind λy=>cond y (fd k) (Eq N vs p ks inp fd kj n (BT (i+1))))) kj
def IK (N:Nat) (t:Eu) (p:Int) (inp:AN) (x:DL):Option (Int×Int×Option Eu):=
 cond (decide (4096≤(t.vs.length:Int))) (some (0,8,some t)) ((It N inp).bind λa=>(Hg N t.bas x.st a).bind λy=>cond (CV t.vs t.cr).isSome none (chk (HQ (x.kids.length+1) 8) (some (t.cr,0,some ⟨t.bas,MJ t.vs p { x with kids:=x.kids++[t.cr]}++[(t.cr,⟨p,a,y.1,[]⟩)],BT (t.cr+1)⟩))))
def Do (N:Nat) (t:Option Eu) (p:Int) (inp:AN):Option (Int×Int×Option Eu):=t.bind λt=>cond (!(CV t.vs p).isSome) (some (0,11,some t)) ((CV t.vs p).bind λx=>cond (decide (x.st.B=16777216)) (some (0,15,some t)) (Eq N t.vs p x.kids inp (λk=>some (k,0,some t)) (IK N t p inp x) N 0))
def Hu (N:Nat) (t:Option Eu) (id:Int):Option (AI×Int):=t.bind λt=>cond (!(CV t.vs id).isSome) (some (st0,11)) ((CV t.vs id).bind λx=>some (x.st,0))
def Dx (N:Nat):Nat→Int→Int→(List Int)→Option (List Int)
 |0,_,_,_=>none
 |i+1,b,c,a=>
 cond (decide (b<c)) (
 (ix a c).bind λj=>
 (ix a c).bind λd=>
 (ix a b).bind λk=>
 (ix a b).bind λg=>
 (ix a b).bind λl=>
 (ix a b).bind λm=>
 (ix (upd a b d) c).bind λn=>
 (ix (upd a b d) c).bind λo=>
 Dx N i (BT (b+1)) (BT (c-1)) (upd (upd a b d) c g)) (
 some a)
def Gq (N:Nat) (a:(List Int)):Option (List Int):=
 Dx N N 0 (BT ((↑a.length:Int)-1)) a
def Dh (N:Nat) (vs:List (Int×DL)):Nat→List Int→Int→Option (List Int)
 |0,_,_=>none
 |n+1,l,id=>cond (CV vs id).isSome ((CV vs id).bind λx=>chk (HQ (l.length+1) 8) (Dh N vs n (l++[id]) x.par)) (some l)
def GD (N:Nat) (t:Option Eu) (id:Int):Option (List Int):=t.bind λt=>(Dh N t.vs N [] id).bind λl=>Gq N l
def Iz (N:Nat) (a:Int):Option Int:=
 some a
def Hn (N:Nat) (b:List Int) (d:List Int) (c:Int→Option Int):Nat→Int→Int→Option Int
 |0,_,_=>none
 |m+1,g,a=>
 (cond ((decide (a<(↑b.length:Int)))&&(decide (a<(↑d.length:Int)))) ((ix b a).bind λn=>
 (ix b a).bind λi=>
 (ix d a).bind λo=>
 (ix d a).bind λj=>
 some (decide (i=j))) (some false)).bind λk=>
 cond k (
 (ix b a).bind λp=>
 (ix b a).bind λl=>
 Hn N b d c m l (BT (a+1))) (
 c g)
def K9 (N:Nat) (a:(Option Eu)) (b:Int) (c:Int):Option Int:=
 (GD N a b).bind λd=>
 (GD N a c).bind λg=>
 Hn N d g (Iz N) N (-1) 0
def Dq (vs:List (Int×DL)):Nat→List Int→Int→Option (List Int)
 |0,_,_=>none
 |n+1,ks,id=>cond ((CV vs id).isSome&& !(ks.contains id)) ((CV vs id).bind λx=>Dq vs n (ks++[id]) x.par) (some ks)
def D9 (N:Nat) (vs:List (Int×DL)) (keep:List Int):Nat→List Int→Int→Option (List Int)
 |0,_,_=>none
 |n+1,ks,i=>cond (decide (i<(keep.length:Int))) ((ix keep i).bind λid=>(Dq vs N ks id).bind λa=>D9 N vs keep n a (BT (i+1))) (some ks)
def Ha (N:Nat) (t:Option Eu) (keep:List Int):Option (Option Eu):=t.bind λt=>(D9 N t.vs keep N (cond (CV t.vs 0).isSome [0] []) 0).bind λks=>some (some ⟨t.bas,LV t.vs ks,t.cr⟩)
def K8 (N:Nat) (t:Option Eu):Option Int:=t.bind λt=>some (max 0 (BT (t.cr-1)))
def JS (N:Nat) (t:Option Eu):Option Int:=t.bind λt=>chk (decide (t.vs.length≤4611686018427387904)) (some (t.vs.length:Int))
def I0 (N:Nat):Option Bool:=
 some true
def Ho (N:Nat) (a:(List Int)) (b:(List Int)) (c:Option Bool):Nat→Int→Option Bool
 |0,_=>none
 |j+1,d=>
 cond (decide (d<(↑a.length:Int))) (
 (ix a d).bind λg=>
 (ix b d).bind λi=>
 cond (decide (g≠i)) (
 some false) (
 Ho N a b c j (BT (d+1)))) (
 c)
def LA (N:Nat) (a:(List Int)) (b:(List Int)):Option Bool:=
 cond (decide ((↑a.length:Int)≠(↑b.length:Int))) (
 some false) (
 Ho N a b (I0 N) N 0)
def J3 (N:Nat) (a:(List Int)) (b:(List Int)):Option Bool:=
 (LA N a b).bind λc=>
 some c
def Ff (N:Nat):Option Bool:=
 (Kj N).bind λI=>
 (OJ N I 0).bind λG=>
 (Kc N I G).bind λk=>
 cond ((k).isNone) (
 some false) (
 (Do N k 0 (⟨([50]:List Int),[],[],[],[]⟩:AN)).bind λb=>
 (Do N b.2.2 0 (⟨[],[],[],[],[]⟩:AN)).bind λc=>
 (Do N c.2.2 b.1 (⟨[],[],[],[],[]⟩:AN)).bind λa=>
 (Do N a.2.2 0 (⟨([50]:List Int),[],[],[],[]⟩:AN)).bind λi=>
 (Do N i.2.2 9 (⟨[],[],[],[],[]⟩:AN)).bind λd=>
 (Hu N d.2.2 a.1).bind λg=>
 (cond (((((((decide (b.2.1≠0))||(decide (c.2.1≠0)))||(decide (a.2.1≠0)))||(decide (i.2.1≠0)))||(decide (g.2≠0)))||(decide (d.2.1≠11)))||(decide ((↑g.1.H.length:Int)≠1))) (some true) ((ix g.1.H 0).bind λl=>
 some (decide ((↑l.length:Int)≠1)))).bind λm=>
 (cond m (some true) ((ix g.1.H 0).bind λn=>
 (ix n 0).bind λo=>
 some (decide (o≠122)))).bind λp=>
 cond p (
 some false) (
 (GD N d.2.2 a.1).bind λq=>
 (K9 N d.2.2 a.1 c.1).bind λs=>
 (Ha N d.2.2 ([c.1]:List Int)).bind λj=>
 (Hu N j b.1).bind λt=>
 (cond (decide (b.1=1)) (some (decide (c.1=2))) (some false)).bind λu=>
 (cond u (some (decide (a.1=3))) (some false)).bind λv=>
 (cond v (some (decide (i.1=1))) (some false)).bind λw=>
 (cond w ((K8 N j).bind λx=>
 some (decide (x=3))) (some false)).bind λy=>
 (cond y ((JS N j).bind λz=>
 some (decide (z=2))) (some false)).bind λA=>
 (cond A ((J3 N q ([0,1,3]:List Int)).bind λB=>
 some B) (some false)).bind λC=>
 (cond C (some (decide (s=0))) (some false)).bind λD=>
 (cond D (some (decide (t.2=11))) (some false)).bind λF=>
 some F))
def HK (N:Nat):Option Bool:=
 some true
def E5 (N:Nat) (a:(List BZ)) (d:Option Bool):Nat→Int→Option Bool
 |0,_=>none
 |j+1,c=>
 cond (decide (c<(↑a.length:Int))) (
 (ix a c).bind λb=>
 (cond (((((decide (8<(↑b.D.S.length:Int)))||(decide (6<(↑b.D.X.length:Int))))||(decide (6<(↑b.D.Y.length:Int))))||(decide (6<(↑b.D.U.length:Int))))||(decide (6<(↑b.D.Ad.length:Int)))) (some true) ((ix a c).bind λg=>
 some (decide (8<(↑g.Bk.length:Int))))).bind λi=>
 cond i (
 some false) (
 E5 N a d j (BT (c+1)))) (
 d)
def JT (N:Nat) (a:AF) (b:(List BZ)):Option Bool:=
 cond (((decide (6<(↑a.A.length:Int)))||(decide (6<(↑a.C.length:Int))))||(decide (16<(↑b.length:Int)))) (
 some false) (
 E5 N b (HK N) N 0)
def IL (N:Nat) (a:AF) (b:AI):Option (Option Eu):=
 (Gv N a).bind λc=>
 (cond (!c) (some true) ((Ka N a b).bind λd=>
 some (!d))).bind λg=>
 cond g (
 some (none:Option Eu)) (
 (Kc N a b).bind λi=>
 some i)
def Ko (N:Nat) (a:Int) (b:List (List Int)) (c:List Int) (d:List AT) (g:List A3) (i:List Int) (j:List Int):Option AI:=
 some (⟨a,b,c,d,g,i,j⟩:AI)
def IY (N:Nat) (c:AF) (b:(List AN)) (g:Int→(List (List Int))→(List Int)→(List AT)→(List A3)→(List Int)→(List Int)→Option AI):Nat→Int→Int→(List (List Int))→(List Int)→(List AT)→(List A3)→(List Int)→(List Int)→Option AI
 |0,_,_,_,_,_,_,_,_=>none
 |q+1,d,i,j,k,l,m,n,o=>
 cond (decide (d<(↑b.length:Int))) (
 (ix b d).bind λp=>
 (Hg N c (⟨i,j,k,l,m,n,o⟩:AI) p).bind λa=>
 IY N c b g q (BT (d+1)) a.1.B a.1.H a.1.N a.1.I a.1.P a.1.D a.1.O) (
 g i j k l m n o)
def NJ (N:Nat) (c:AF) (a:AI) (b:(List AN)):Option AI:=
 IY N c b (Ko N) N 0 a.B a.H a.N a.I a.P a.D a.O
def DV (N:Nat):Option Bool:=
 some true
def CD (N:Nat) (a:(List (List Int))) (b:(List (List Int))) (c:(((List Int)×(List Int))→Option Bool)) (g:Option Bool):Nat→Int→Option Bool
 |0,_=>none
 |l+1,d=>
 cond (decide (d<(↑a.length:Int))) (
 (ix a d).bind λi=>
 (ix b d).bind λj=>
 (c (i,j)).bind λk=>
 cond (!k) (
 some false) (
 CD N a b c g l (BT (d+1)))) (
 g)
def Dm (N:Nat) (a:(List (List Int))) (b:(List (List Int))) (c:(((List Int)×(List Int))→Option Bool)):Option Bool:=
 cond (decide ((↑a.length:Int)≠(↑b.length:Int))) (
 some false) (
 CD N a b c (DV N) N 0)
def BF (N:Nat):Option Bool:=
 some true
def AQ (N:Nat) (a:(List AT)) (b:(List AT)) (c:((AT×AT)→Option Bool)) (g:Option Bool):Nat→Int→Option Bool
 |0,_=>none
 |l+1,d=>
 cond (decide (d<(↑a.length:Int))) (
 (ix a d).bind λi=>
 (ix b d).bind λj=>
 (c (i,j)).bind λk=>
 cond (!k) (
 some false) (
 AQ N a b c g l (BT (d+1)))) (
 g)
def BH (N:Nat) (a:(List AT)) (b:(List AT)) (c:((AT×AT)→Option Bool)):Option Bool:=
 cond (decide ((↑a.length:Int)≠(↑b.length:Int))) (
 some false) (
 AQ N a b c (BF N) N 0)
def Cf (N:Nat):Option Bool:=
 some true
def BR (N:Nat) (a:(List A3)) (b:(List A3)) (c:Option Bool):Nat→Int→Option Bool
 |0,_=>none
 |j+1,d=>
 cond (decide (d<(↑a.length:Int))) (
 (ix a d).bind λg=>
 (ix b d).bind λi=>
 cond (!(RE g.v i.v)) (
 some false) (
 BR N a b c j (BT (d+1)))) (
 c)
def Cw (N:Nat) (a:(List A3)) (b:(List A3)):Option Bool:=
 cond (decide ((↑a.length:Int)≠(↑b.length:Int))) (
 some false) (
 BR N a b (Cf N) N 0)
def Hf (N:Nat) (a:AT) (b:AT):Option Bool:=
 (cond ((decide (a.At=b.At))&&(decide (a.E=b.E))) ((CQ N a.V b.V).bind λc=>
 some c) (some false)).bind λd=>
 some d
def MT (N:Nat) (a:AI) (b:AI):Option Bool:=
 (cond (decide (a.B=b.B)) ((Dm N a.H b.H (λx=>CQ N x.1 x.2)).bind λc=>
 some c) (some false)).bind λd=>
 (cond d ((CQ N a.N b.N).bind λg=>
 some g) (some false)).bind λi=>
 (cond i ((BH N a.I b.I (λx=>Hf N x.1 x.2)).bind λj=>
 some j) (some false)).bind λk=>
 (cond k ((Cw N a.P b.P).bind λl=>
 some l) (some false)).bind λm=>
 (cond m ((CQ N a.D b.D).bind λn=>
 some n) (some false)).bind λo=>
 (cond o ((CQ N a.O b.O).bind λp=>
 some p) (some false)).bind λq=>
 some q
def FV (N:Nat) (a:Int) (c:Int→Int→Option Bool) (b:Int):Option Bool:=
 c b (BT (a+1))
def CN (N:Nat) (b:AF) (c:AI) (d:List (List AN)) (j:(Option Eu)) (k:Int→Option Bool):Nat→Int→Int→Option Bool
 |0,_,_=>none
 |t+1,g,a=>
 cond (decide (a<(↑d.length:Int))) (
 (Hu N j a).bind λi=>
 cond (decide (i.2=11)) (
 FV N a (CN N b c d j k t) g) (
 (cond (decide (i.2≠0)) (some true) ((ix d a).bind λl=>
 (NJ N b c l).bind λm=>
 (MT N i.1 m).bind λn=>
 some (!n))).bind λo=>
 (cond o (some true) ((GD N j a).bind λp=>
 (ix d a).bind λq=>
 some (decide ((↑p.length:Int)≠(BT ((↑q.length:Int)+1)))))).bind λs=>
 cond s (
 some false) (
 FV N a (CN N b c d j k t) (BT (g+1))))) (
 k g)
def EK (N:Nat) (d:Bool) (g:(Option Eu)) (c:Int):Option Bool:=
 (cond d ((JS N g).bind λa=>
 some (decide (c=a))) (some false)).bind λb=>
 some b
def DO (N:Nat) (a:AF) (b:AI) (d:Bool) (g:List (List AN)) (c:(Option Eu)):Option Bool:=
 CN N a b g c (EK N d c) N 0 0
def EL (N:Nat) (b:List (List AN)) (c:BZ) (g:(List (List AN))→((Option Eu))→Option Bool) (i:(Option Eu)):Option Bool:=
 cond (decide (5<(IU .and .i64 c.Bh 7))) (
 g b i) (
 (Do N i c.Bb c.D).bind λa=>
 cond (decide (a.2.1≠0)) (
 g b a.2.2) (
 cond ((((decide (a.1<1))||(decide ((↑b.length:Int)<a.1)))||(decide (c.Bb<0)))||(decide ((↑b.length:Int)≤c.Bb))) (
 some false) (
 cond (decide (a.1=(↑b.length:Int))) (
 (ix b c.Bb).bind λj=>
 (ix b c.Bb).bind λd=>
 chk (HQ (([]:List AN).length+d.length) 120) <|
 chk (HQ ((([]:List AN)++d).length+1) 120) <|
 chk (HQ (b.length+1) 24) <|
 g (b++([((([]:List AN)++d)++([c.D]:List AN))]:List (List AN))) a.2.2) (
 g b a.2.2))))
def Dt (N:Nat) (a:Int) (b:(List (List AN))→Int→((Option Eu))→Option Bool) (c:List (List AN)) (d:(Option Eu)):Option Bool:=
 b c (BT (a+1)) d
def CF (N:Nat) (a:(List BZ)) (d:(List (List AN))→((Option Eu))→Option Bool):Nat→(List (List AN))→Int→((Option Eu))→Option Bool
 |0,_,_,_=>none
 |k+1,g,b,i=>
 cond (decide (b<(↑a.length:Int))) (
 (ix a b).bind λc=>
 cond (decide ((IU .and .i64 c.Bh 7)=7)) (
 (Ha N i c.Bk).bind λj=>
 EL N g c (Dt N b (CF N a d k)) j) (
 EL N g c (Dt N b (CF N a d k)) i)) (
 d g i)
def GZ (N:Nat) (a:AF) (b:AI) (c:(List BZ)):Option Bool:=
 (Ff N).bind λd=>
 (JT N a c).bind λi=>
 (IL N a b).bind λg=>
 cond ((!i)||((g).isNone)) (
 some d) (
 CF N c (DO N a b d) N ([[]]:List (List AN)) 0 g)
end Go.Proofs.YtabonambpbofgaaGreat
