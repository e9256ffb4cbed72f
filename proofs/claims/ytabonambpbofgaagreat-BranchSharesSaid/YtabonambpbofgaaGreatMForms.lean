import Derived.Test.YtabonambpbofgaaGreatMReps
import Derived.Test.YtabonambpbofgaaGreatMInst
import Derived.Test.YtabonambpbofgaaGreatMSortD
namespace Go.Proofs.YtabonambpbofgaaGreat
set_option linter.all false
open Go.RowKit
def KP (N:Nat):Option AF:=
 some (⟨(ByteArray.mk #[98]),([(ByteArray.mk #[111])]:List ByteArray),0,PE,[],[],[],[],[],([0,0,0]:List Int),0⟩:AF)
def BG (N:Nat) (a:(List Int)):Option (List Int):=
 chk (HJ (([]:List Int).length+a.length) 8) <|
 some (([]:List Int)++a)
def Kg (N:Nat) (a:AF) (b:Int) (c:List (List Int)):Option AN:=
 some (⟨b,c,(List.replicate ((↑a.A.length:Int):Int).toNat (0:Int)),[],(List.replicate ((↑a.C.length:Int):Int).toNat ((⟨0,0,false,false⟩:A0):A0)),(List.replicate ((↑a.H.length:Int):Int).toNat (0:Int)),(List.replicate ((↑a.H.length:Int):Int).toNat (0:Int))⟩:AN)
def Jm (N:Nat) (c:AF) (d:(List (List Int))→Option AN):Nat→Int→(List (List Int))→Option AN
 |0,_,_=>none
 |l+1,a,b=>
 cond (decide (a<(↑c.A.length:Int))) (
 (ix c.A a).bind λg=>
 (BG N g.An).bind λi=>
 (ix b a).bind λj=>
 (ix b a).bind λk=>
 Jm N c d l (BO (a+1)) (upd b a i)) (
 d b)
def Np (N:Nat) (a:AF) (b:Int):Option AN:=
 chk (K3 (↑a.A.length:Int) (↑a.A.length:Int) 24) <|
 chk (K3 (↑a.A.length:Int) (↑a.A.length:Int) 8) <|
 chk (K3 (↑a.C.length:Int) (↑a.C.length:Int) 24) <|
 chk (K3 (↑a.H.length:Int) (↑a.H.length:Int) 8) <|
 chk (K3 (↑a.H.length:Int) (↑a.H.length:Int) 8) <|
 Jm N a (Kg N a b) N 0 (List.replicate ((↑a.A.length:Int):Int).toNat ([]:(List Int)))
def C4 (N:Nat) (c:Int) (b:Int) (a:Int):Option Bool:=
 some ((decide (b≤c))&&(decide (c≤a)))
def Ct (N:Nat) (a:Int):Option Bool:=
 (C4 N a 0 1125899906842624).bind λb=>
 some b
def Eo (N:Nat) (a:AF) (c:Option Bool):Nat→Int→Option Bool
 |0,_=>none
 |i+1,b=>
 cond (decide (b<(↑a.Aj.length:Int))) (
 (ix a.Aj b).bind λd=>
 (Ct N d).bind λg=>
 cond (!g) (
 some false) (
 Eo N a c i (BO (b+1)))) (
 c)
def G6 (N:Nat):Option Bool:=
 some true
def Eq (N:Nat) (a:AF):Option Bool:=
 Eo N a (G6 N) N 0
def Ep (N:Nat) (a:AF) (d:Option Bool):Nat→Int→Option Bool
 |0,_=>none
 |g+1,c=>
 cond (decide (c<(↑a.D.size:Int))) (
 (YG a.D c).bind λb=>
 cond ((((decide (b<32))||(decide (126<b)))||(decide (b=34)))||(decide (b=92))) (
 some false) (
 Ep N a d g (BO (c+1)))) (
 d)
def Hu (N:Nat) (a:AF):Option Bool:=
 (cond (decide (500<(↑a.D.size:Int))) (some true) ((C4 N (↑a.H.length:Int) 1 16).bind λb=>
 some (!b))).bind λc=>
 (cond c (some true) ((C4 N a.J 0 64).bind λd=>
 some (!d))).bind λg=>
 (cond g (some true) ((C4 N (↑a.A.length:Int) 1 64).bind λi=>
 some (!i))).bind λj=>
 (cond ((((((j||(decide (96<(↑a.C.length:Int))))||(decide (40<(↑a.Af.length:Int))))||(decide (128<(↑a.Ah.length:Int))))||(decide (128<(↑a.Ai.length:Int))))||(decide (40<(↑a.Ak.length:Int))))||(decide ((↑a.Aj.length:Int)≠3))) (some true) ((C4 N a.K 0 1099511627776).bind λk=>
 some (!k))).bind λl=>
 cond l (
 some false) (
 Ep N a (Eq N a) N 0)
def Hv (N:Nat):Option Bool:=
 some true
def GT (N:Nat) (a:ByteArray) (d:Option Bool):Nat→Int→Option Bool
 |0,_=>none
 |g+1,c=>
 cond (decide (c<(↑a.size:Int))) (
 (YG a c).bind λb=>
 cond ((((decide (b<97))||(decide (122<b)))&&((decide (b<48))||(decide (57<b))))&&(decide (b≠95))) (
 some false) (
 GT N a d g (BO (c+1)))) (
 d)
def J4 (N:Nat) (a:ByteArray):Option Bool:=
 (cond (((decide ((↑a.size:Int)<1))||(decide (24<(↑a.size:Int))))||(a==(ByteArray.mk #[111,117,116]))) (some true) ((YG a 0).bind λb=>
 some (decide (b<97)))).bind λc=>
 (cond c (some true) ((YG a 0).bind λd=>
 some (decide (122<d)))).bind λg=>
 cond g (
 some false) (
 GT N a (Hv N) N 1)
def IQ (N:Nat) (a:(List (AG×Bool))) (b:ByteArray) (d:ByteArray):Option (Bool×(List (AG×Bool))):=
 (J4 N b).bind λc=>
 cond ((!c)||((LP (λk:AG=>Value.agg (AG.v k).toArray) a (⟨d,b⟩:AG)).getD false)) (
 some (false,a)) (
 some (true,(N7 (λk:AG=>Value.agg (AG.v k).toArray) a (⟨d,b⟩:AG) true)))
def KY (N:Nat) (a:(List (AG×Bool))) (b:ByteArray) (c:ByteArray):Option (Bool×(List (AG×Bool))):=
 cond (b==(ByteArray.mk #[115,104,101,108,116,101,114])) (
 IQ N a c (ByteArray.mk #[116,111,119,110])) (
 IQ N a c b)
def DZ (N:Nat) (c2_:(List (AG×Bool))) (c3_:Bool) (a:ByteArray) (b:ByteArray):Option ((List (AG×Bool))×Bool):=
 (KY N c2_ a b).bind λc=>
 some (c.2,(c.1&&c3_))
def Dy (N:Nat) (a:AF) (d:Bool→((List (AG×Bool)))→Option Bool):Nat→Int→Bool→((List (AG×Bool)))→Option Bool
 |0,_,_,_=>none
 |k+1,c,g,i=>
 cond (decide (c<(↑a.A.length:Int))) (
 (ix a.A c).bind λj=>
 (DZ N i g (ByteArray.mk #[112,108,97,99,101]) j.D).bind λb=>
 Dy N a d k (BO (c+1)) b.2 b.1) (
 d g i)
def Dx (N:Nat) (a:AF) (i:Bool→((List (AG×Bool)))→Option Bool):Nat→Int→Bool→((List (AG×Bool)))→Option Bool
 |0,_,_,_=>none
 |k+1,b,c,d=>
 cond (decide (b<(↑a.C.length:Int))) (
 (ix a.C b).bind λj=>
 (DZ N d c (ByteArray.mk #[108,105,110,107]) j.D).bind λg=>
 Dx N a i k (BO (b+1)) g.2 g.1) (
 i c d)
def Dw (N:Nat) (a:AF) (i:Bool→((List (AG×Bool)))→Option Bool):Nat→Int→Bool→((List (AG×Bool)))→Option Bool
 |0,_,_,_=>none
 |k+1,b,c,d=>
 cond (decide (b<(↑a.Af.length:Int))) (
 (ix a.Af b).bind λj=>
 (DZ N d c (ByteArray.mk #[116,111,119,110]) j.D).bind λg=>
 Dw N a i k (BO (b+1)) g.2 g.1) (
 i c d)
def Dv (N:Nat) (a:AF) (i:Bool→((List (AG×Bool)))→Option Bool):Nat→Int→Bool→((List (AG×Bool)))→Option Bool
 |0,_,_,_=>none
 |k+1,b,c,d=>
 cond (decide (b<(↑a.Ak.length:Int))) (
 (ix a.Ak b).bind λj=>
 (DZ N d c (ByteArray.mk #[115,104,101,108,116,101,114]) j.D).bind λg=>
 Dv N a i k (BO (b+1)) g.2 g.1) (
 i c d)
def Dj (N:Nat) (a:AF) (c:Bool→((List (AG×Bool)))→Option Bool):Nat→Int→Bool→((List (AG×Bool)))→Option Bool
 |0,_,_,_=>none
 |k+1,b,d,g=>
 cond (decide (b<(↑a.Ah.length:Int))) (
 (ix a.Ah b).bind λj=>
 (DZ N g d (ByteArray.mk #[103,97,117,103,101]) j.D).bind λi=>
 Dj N a c k (BO (b+1)) i.2 i.1) (
 c d g)
def Di (N:Nat) (a:AF) (c:Bool→Option Bool):Nat→Int→Bool→((List (AG×Bool)))→Option Bool
 |0,_,_,_=>none
 |k+1,b,d,i=>
 cond (decide (b<(↑a.Ai.length:Int))) (
 (ix a.Ai b).bind λj=>
 (DZ N i d (ByteArray.mk #[114,111,97,100]) j.D).bind λg=>
 Di N a c k (BO (b+1)) g.2 g.1) (
 c d)
def Eu (N:Nat) (a:Bool):Option Bool:=
 some a
def Ev (N:Nat) (a:AF) (b:Bool) (c:(List (AG×Bool))):Option Bool:=
 Di N a (Eu N) N 0 b c
def FO (N:Nat) (a:AF) (b:Bool) (c:(List (AG×Bool))):Option Bool:=
 Dj N a (Ev N a) N 0 b c
def FP (N:Nat) (a:AF) (b:Bool) (c:(List (AG×Bool))):Option Bool:=
 Dv N a (FO N a) N 0 b c
def FQ (N:Nat) (a:AF) (b:Bool) (c:(List (AG×Bool))):Option Bool:=
 Dw N a (FP N a) N 0 b c
def FT (N:Nat) (a:AF) (b:Bool) (c:(List (AG×Bool))):Option Bool:=
 Dx N a (FQ N a) N 0 b c
def FU (N:Nat) (a:AF) (b:Bool) (c:(List (AG×Bool))):Option Bool:=
 Dy N a (FT N a) N 0 b c
def Dz (N:Nat) (a:AF) (c:Bool→((List (AG×Bool)))→Option Bool):Nat→Int→Bool→((List (AG×Bool)))→Option Bool
 |0,_,_,_=>none
 |k+1,b,d,g=>
 cond (decide (b<(↑a.H.length:Int))) (
 (ix a.H b).bind λj=>
 (DZ N g d (ByteArray.mk #[111,119,110,101,114]) j).bind λi=>
 Dz N a c k (BO (b+1)) i.2 i.1) (
 c d g)
def Jg (N:Nat) (a:AF):Option Bool:=
 Dz N a (FU N a) N 0 true ([]:(List (AG×Bool)))
def Ha (N:Nat):Option Bool:=
 some true
def FG (N:Nat) (a:(List BU)) (d:Option Bool):Nat→Int→Option Bool
 |0,_=>none
 |l+1,c=>
 cond (decide (c<(↑a.length:Int))) (
 (ix a c).bind λb=>
 cond ((((decide (b.P<0))||(decide (1125899906842624<b.P)))||(decide (b.X<0)))||(decide (1125899906842624<b.X))) (
 some false) (
 (cond (decide (0<c)) ((ix a (BO (c-1))).bind λg=>
 (cond (decide (b.P≤g.P)) (some true) ((ix a (BO (c-1))).bind λi=>
 some (decide (b.X<i.X)))).bind λj=>
 some j) (some false)).bind λk=>
 cond k (
 some false) (
 FG N a d l (BO (c+1))))) (
 d)
def FH (N:Nat) (a:(List BU)):Option Bool:=
 cond ((decide ((↑a.length:Int)<1))||(decide (32<(↑a.length:Int)))) (
 some false) (
 FG N a (Ha N) N 0)
def Hc (N:Nat) (a:Int) (b:Int):Option Bool:=
 (Ct N a).bind λc=>
 (cond c ((Ct N b).bind λd=>
 some d) (some false)).bind λg=>
 some (g&&((decide (b≠0))||(decide (a=0))))
def Fq (N:Nat) (b:Int) (a:Int):Option Bool:=
 (C4 N b 0 (BO (a-1))).bind λc=>
 some c
def JV (N:Nat) (c:AF) (b:Int) (a:Int):Option Bool:=
 (cond (decide (a=(-1))) (some true) ((Fq N a (↑c.A.length:Int)).bind λd=>
 some (d&&(decide (a≠b))))).bind λg=>
 some g
def CN (N:Nat) (a:Int):Option Bool:=
 some (decide (a≤1125899906842624))
def DA (N:Nat) (d:Ca) (g:Int→Option Bool):Nat→Int→Int→Option Bool
 |0,_,_=>none
 |j+1,b,a=>
 cond (decide (a<(↑d.An.length:Int))) (
 (ix d.An a).bind λc=>
 (Ct N c).bind λi=>
 cond (!i) (
 some false) (
 DA N d g j (BO (b+c)) (BO (a+1)))) (
 g b)
def CX (N:Nat) (c:AF) (g:Ca) (d:Int) (i:Int→Option Bool):Nat→Int→Int→Option Bool
 |0,_,_=>none
 |m+1,j,b=>
 cond (decide (b<(↑g.T.length:Int))) (
 (ix g.T b).bind λa=>
 (cond ((decide (a.Bf≤j))||(decide (c.J≤a.Bf))) (some true) ((Ct N a.Bo).bind λk=>
 some (!k))).bind λl=>
 cond l (
 some false) (
 CX N c g d i m a.Bf (BO (b+1)))) (
 i d)
def Et (N:Nat) (a:AF) (c:Ca) (d:Int→Option Bool) (b:Int):Option Bool:=
 CX N a c b d N (-1) 0
def Cw (N:Nat) (a:Int) (b:Int→Int→Option Bool) (c:Int):Option Bool:=
 b c (BO (a+1))
def B1 (N:Nat) (b:AF) (d:Int→Option Bool):Nat→Int→Int→Option Bool
 |0,_,_=>none
 |y+1,g,c=>
 cond (decide (c<(↑b.A.length:Int))) (
 (ix b.A c).bind λa=>
 (C4 N a.F 0 3).bind λj=>
 (cond (!j) (some true) ((C4 N a.At 0 2).bind λk=>
 some (!k))).bind λl=>
 (cond l (some true) ((C4 N a.Q 0 240).bind λm=>
 some (!m))).bind λn=>
 (cond n (some true) ((Ct N a.Au).bind λo=>
 some (!o))).bind λp=>
 (cond p (some true) ((Ct N a.Bg).bind λq=>
 some (!q))).bind λs=>
 (cond s (some true) ((FH N a.Bj).bind λt=>
 some (!t))).bind λu=>
 (cond (u||(decide ((↑a.An.length:Int)≠(↑b.H.length:Int)))) (some true) ((Hc N a.Y a.S).bind λv=>
 some (!v))).bind λw=>
 (cond w (some true) ((JV N b c a.Ao).bind λi=>
 some (!i))).bind λx=>
 cond x (
 some false) (
 DA N a (Et N b a (Cw N c (B1 N b d y))) N g 0)) (
 d g)
def HI (N:Nat) (a:AF):Option Bool:=
 B1 N a (CN N) N 0 0
def JQ (N:Nat) (a:Int):Option Int:=
 some a
def Gy (N:Nat) (b:(Int→Option Bool)) (d:Int→Option Int):Nat→Int→Int→Option Int
 |0,_,_=>none
 |i+1,a,c=>
 cond (decide (a<c)) (
 (b (BO (FV .u64 (IntKind.wrap .u64 (BO (a+c))) 1))).bind λg=>
 cond (!g) (
 Gy N b d i (BO ((BO (FV .u64 (IntKind.wrap .u64 (BO (a+c))) 1))+1)) c) (
 Gy N b d i a (BO (FV .u64 (IntKind.wrap .u64 (BO (a+c))) 1)))) (
 d a)
def Ld (N:Nat) (a:Int) (b:(Int→Option Bool)):Option Int:=
 Gy N b (JQ N) N 0 a
def I1 (N:Nat) (b:(List BU)) (c2_:Int) (a:Int):Option Bool:=
 (ix b a).bind λc=>
 some (decide (c2_<c.P))
def Ht (N:Nat) (a:Int) (b:Int):Option (Int×Int):=
 some ((IntKind.wrap .u64 ((IntKind.wrap .u64 ((IntKind.wrap .u64 ((FV .u64 a 32)*(FV .u64 b 32)))+(FV .u64 (IntKind.wrap .u64 ((IntKind.wrap .u64 ((FV .u64 a 32)*(JA .and .u64 b 4294967295)))+(FV .u64 (IntKind.wrap .u64 ((JA .and .u64 a 4294967295)*(JA .and .u64 b 4294967295))) 32))) 32)))+(FV .u64 (IntKind.wrap .u64 ((JA .and .u64 (IntKind.wrap .u64 ((IntKind.wrap .u64 ((FV .u64 a 32)*(JA .and .u64 b 4294967295)))+(FV .u64 (IntKind.wrap .u64 ((JA .and .u64 a 4294967295)*(JA .and .u64 b 4294967295))) 32))) 4294967295)+(IntKind.wrap .u64 ((JA .and .u64 a 4294967295)*(FV .u64 b 32))))) 32))),(IntKind.wrap .u64 (a*b)))
def Gz (N:Nat) (a:Int) (b:Int):Option Int:=
 (YG M6 (IntKind.wrap .u8 a)).bind λc=>
 some (BO (b+(BO c)))
def G0 (N:Nat) (a:Int) (b:Int):Option Int:=
 cond (decide (256≤a)) (
 Gz N (FV .u64 a 8) (BO (b+8))) (
 Gz N a b)
def G1 (N:Nat) (a:Int) (b:Int):Option Int:=
 cond (decide (65536≤a)) (
 G0 N (FV .u64 a 16) (BO (b+16))) (
 G0 N a b)
def I6 (N:Nat) (a:Int):Option Int:=
 cond (decide (4294967296≤a)) (
 G1 N (FV .u64 a 32) 32) (
 G1 N a 0)
def Fk (N:Nat) (a:Int):Option Int:=
 (I6 N a).bind λb=>
 some (BO (64-b))
def EB (N:Nat) (b:Int) (a:Int) (d:Nat) (j:Nat) (g:Int→Option (Int×Int)):Nat→Int→Int→Option (Int×Int)
 |0,_,_=>none
 |k+1,i,c=>
 cond ((decide (4294967296≤c))||(decide ((IntKind.wrap .u64 ((IntKind.wrap .u64 (4294967296*i))+(JA .and .u64 (EL .u64 b j) 4294967295)))<(IntKind.wrap .u64 (c*(JA .and .u64 (EL .u64 a d) 4294967295)))))) (
 cond (decide (4294967296≤(IntKind.wrap .u64 (i+(FV .u64 (EL .u64 a d) 32))))) (
 g (IntKind.wrap .u64 (c-1))) (
 EB N b a d j g k (IntKind.wrap .u64 (i+(FV .u64 (EL .u64 a d) 32))) (IntKind.wrap .u64 (c-1)))) (
 g c)
def Fl (N:Nat) (c:Int) (a:Int) (b:Int) (n:Int) (d:Nat) (k:Nat) (l:Nat) (g:Nat) (i:Int) (j:Int):Option (Int×Int):=
 (P0 (IntKind.wrap .u64 n)).bind λm=>
 some ((IntKind.wrap .u64 ((IntKind.wrap .u64 (i*4294967296))+j)),(FV .u64 (IntKind.wrap .u64 ((IntKind.wrap .u64 ((IntKind.wrap .u64 ((IntKind.wrap .u64 ((IntKind.wrap .u64 ((IntKind.wrap .u64 ((JA .or .u64 (EL .u64 c k) (FV .u64 a l))*4294967296))+(FV .u64 (EL .u64 a g) 32)))-(IntKind.wrap .u64 (i*(EL .u64 b d)))))*4294967296))+(JA .and .u64 (EL .u64 a g) 4294967295)))-(IntKind.wrap .u64 (j*(EL .u64 b d))))) m))
def EC (N:Nat) (c:Int) (a:Int) (b:Int) (m:Int) (d:Nat) (i:Nat) (j:Nat) (g:Nat) (k:Int):Option (Int×Int):=
 (Rr .u64 (IntKind.wrap .u64 ((IntKind.wrap .u64 ((IntKind.wrap .u64 ((JA .or .u64 (EL .u64 c i) (FV .u64 a j))*4294967296))+(FV .u64 (EL .u64 a g) 32)))-(IntKind.wrap .u64 (k*(EL .u64 b d))))) (FV .u64 (EL .u64 b d) 32)).bind λl=>
 EB N a b d g (Fl N c a b m d i j g k) N (IntKind.wrap .u64 ((IntKind.wrap .u64 ((IntKind.wrap .u64 ((IntKind.wrap .u64 ((JA .or .u64 (EL .u64 c i) (FV .u64 a j))*4294967296))+(FV .u64 (EL .u64 a g) 32)))-(IntKind.wrap .u64 (k*(EL .u64 b d)))))-(IntKind.wrap .u64 (l*(FV .u64 (EL .u64 b d) 32))))) l
def Do (N:Nat) (b:Int) (a:Int) (d:Nat) (j:Nat) (g:Int→Option (Int×Int)):Nat→Int→Int→Option (Int×Int)
 |0,_,_=>none
 |k+1,c,i=>
 cond ((decide (4294967296≤c))||(decide ((IntKind.wrap .u64 ((IntKind.wrap .u64 (4294967296*i))+(FV .u64 (EL .u64 b j) 32)))<(IntKind.wrap .u64 (c*(JA .and .u64 (EL .u64 a d) 4294967295)))))) (
 cond (decide (4294967296≤(IntKind.wrap .u64 (i+(FV .u64 (EL .u64 a d) 32))))) (
 g (IntKind.wrap .u64 (c-1))) (
 Do N b a d j g k (IntKind.wrap .u64 (c-1)) (IntKind.wrap .u64 (i+(FV .u64 (EL .u64 a d) 32))))) (
 g c)
def GS (N:Nat) (c:Int) (b:Int) (a:Int):Option (Int×Int):=
 cond (decide (a=0)) (
 none) (
 cond (decide (a≤c)) (
 none) (
 cond (decide (c=0)) (
 (Rr .u64 b a).bind λm=>
 (UT b a).bind λn=>
 some (m,n)) (
 (Fk N a).bind λj=>
 (P0 (IntKind.wrap .u64 j)).bind λd=>
 (P0 (IntKind.wrap .u64 j)).bind λg=>
 (P0 (IntKind.wrap .u64 (64-(IntKind.wrap .u64 j)))).bind λi=>
 (P0 (IntKind.wrap .u64 j)).bind λk=>
 (Rr .u64 (JA .or .u64 (EL .u64 c g) (FV .u64 b i)) (FV .u64 (EL .u64 a d) 32)).bind λl=>
 Do N b a d k (EC N c b a j d g i k) N l (IntKind.wrap .u64 ((JA .or .u64 (EL .u64 c g) (FV .u64 b i))-(IntKind.wrap .u64 (l*(FV .u64 (EL .u64 a d) 32))))))))
def Gd (N:Nat) (c:Int) (b:Int) (a:Int):Option (Int×Int×Bool):=
 cond ((((((decide (c<0))||(decide (1125899906842624<c)))||(decide (b<0)))||(decide (1125899906842624<b)))||(decide (a<1)))||(decide (1125899906842624<a))) (
 some (0,0,false)) (
 (Ht N (IntKind.wrap .u64 c) (IntKind.wrap .u64 b)).bind λg=>
 cond (decide ((IntKind.wrap .u64 a)≤g.1)) (
 some (0,0,false)) (
 (GS N g.1 g.2 (IntKind.wrap .u64 a)).bind λd=>
 cond (decide (1125899906842624<d.1)) (
 some (0,0,false)) (
 some ((BO d.1),(BO d.2),true))))
def JJ (N:Nat) (a:(List BU)) (d:Int):Option (Int×Bool):=
 (Ld N (↑a.length:Int) (λx=>I1 N a d x)).bind λb=>
 cond (decide (b=0)) (
 (ix a 0).bind λi=>
 some (i.X,false)) (
 (ix a (BO (b-1))).bind λc=>
 cond (decide (b=(↑a.length:Int))) (
 some (c.X,false)) (
 (ix a b).bind λj=>
 (ix a b).bind λk=>
 (Gd N (BO (d-c.P)) (BO (j.X-c.X)) (BO (k.P-c.P))).bind λg=>
 some ((BO (c.X+g.1)),(decide (0<g.2.1)))))
def G2 (N:Nat) (b:(List BU)) (a:(List BU)) (i:Option Bool):Nat→Int→Option Bool
 |0,_=>none
 |j+1,c=>
 cond (decide (c<(↑a.length:Int))) (
 (ix a c).bind λd=>
 (JJ N b d.P).bind λg=>
 cond ((decide (d.X<g.1))||((decide (g.1=d.X))&&g.2)) (
 some false) (
 G2 N b a i j (BO (c+1)))) (
 i)
def IP (N:Nat):Option Bool:=
 some true
def G4 (N:Nat) (a:(List BU)) (b:(List BU)):Option Bool:=
 G2 N a b (IP N) N 0
def G3 (N:Nat) (a:(List BU)) (b:(List BU)) (d:Option Bool):Nat→Int→Option Bool
 |0,_=>none
 |j+1,c=>
 cond (decide (c<(↑a.length:Int))) (
 (ix a c).bind λg=>
 (JJ N b g.P).bind λi=>
 cond (decide (i.1<g.X)) (
 some false) (
 G3 N a b d j (BO (c+1)))) (
 d)
def IJ (N:Nat) (a:(List BU)) (b:(List BU)):Option Bool:=
 (FH N a).bind λc=>
 (cond (!c) (some true) ((FH N b).bind λd=>
 some (!d))).bind λg=>
 cond g (
 some false) (
 G3 N a b (G4 N a b) N 0)
def EI (N:Nat) (a:A8) (b:Bool):Option Bool:=
 cond b (
 (Ct N a.Bc).bind λc=>
 (cond c ((Ct N a.Y).bind λd=>
 some d) (some false)).bind λg=>
 (cond g ((C4 N a.S 1 1125899906842624).bind λi=>
 some i) (some false)).bind λj=>
 some j) (
 cond (decide (a.F=2)) (
 (Ct N a.Y).bind λk=>
 (cond k ((C4 N a.V 1 64).bind λl=>
 some l) (some false)).bind λm=>
 (cond m ((C4 N a.Ag 0 a.V).bind λn=>
 some n) (some false)).bind λo=>
 some o) (
 cond (decide (a.F=3)) (
 (Ct N a.Y).bind λp=>
 (cond p ((C4 N a.S 1 1125899906842624).bind λq=>
 some q) (some false)).bind λs=>
 (cond s ((Ct N a.Ay).bind λt=>
 some t) (some false)).bind λu=>
 (cond u ((Ct N a.Az).bind λv=>
 some v) (some false)).bind λw=>
 some (w&&(decide (a.Az<a.Ay)))) (
 (Ct N a.Y).bind λx=>
 (cond x ((C4 N a.S 1 1125899906842624).bind λy=>
 some y) (some false)).bind λz=>
 (cond z ((Hc N a.Aq a.Al).bind λA=>
 some A) (some false)).bind λB=>
 some (B&&(decide (a.E≠(-1)))))))
def GL (N:Nat) (a:A8):Option Bool:=
 cond (decide (a.F=0)) (
 (FH N a.As).bind λb=>
 (cond b ((FH N a.Ad.Av).bind λc=>
 some c) (some false)).bind λd=>
 (cond d ((FH N a.Ad.Aw).bind λg=>
 some g) (some false)).bind λi=>
 (cond i ((IJ N a.Ad.Av a.As).bind λj=>
 some j) (some false)).bind λk=>
 (cond k ((IJ N a.As a.Ad.Aw).bind λl=>
 some l) (some false)).bind λm=>
 (cond m ((C4 N a.V 0 64).bind λn=>
 some n) (some false)).bind λo=>
 (cond o ((C4 N a.Ag 0 a.V).bind λp=>
 some p) (some false)).bind λq=>
 (cond q ((Ct N a.Bb).bind λs=>
 some s) (some false)).bind λt=>
 (cond t ((Hc N a.Aq a.Al).bind λu=>
 some u) (some false)).bind λv=>
 some (v&&((decide (a.E≠(-1)))||(decide (a.Al=0))))) (
 cond (decide (a.F=1)) (
 EI N a (decide (a.F=1))) (
 EI N a (decide (a.F=5))))
def FK (N:Nat) (a:A8):Option Bool:=
 cond ((!(decide (a.F=0)))&&((((decide (0<(↑a.As.length:Int)))||(decide (0<(↑a.Ad.Av.length:Int))))||(decide (0<(↑a.Ad.Aw.length:Int))))||(decide (a.Bb≠0)))) (
 some false) (
 cond (((!(decide (a.F=0)))&&(decide (a.F≠2)))&&((decide (a.V≠0))||(decide (a.Ag≠0)))) (
 some false) (
 cond (((decide (a.F≠1))&&(decide (a.F≠5)))&&(decide (a.Bc≠0))) (
 some false) (
 cond (((decide (a.F=0))&&(decide (a.Y≠0)))||(((decide (a.F=0))||(decide (a.F=2)))&&(decide (a.S≠0)))) (
 some false) (
 cond ((decide (a.F≠3))&&((decide (a.Ay≠0))||(decide (a.Az≠0)))) (
 some false) (
 some (((decide (a.F=0))||(decide (a.F=4)))||((decide (a.Aq=0))&&(decide (a.Al=0)))))))))
def Dd (N:Nat):Option Bool:=
 some true
def CS (N:Nat) (a:AF) (d:Option Bool):Nat→Int→Option Bool
 |0,_=>none
 |t+1,c=>
 cond (decide (c<(↑a.C.length:Int))) (
 (ix a.C c).bind λb=>
 (C4 N b.F 0 5).bind λg=>
 (cond (!g) (some true) ((Fq N b.M (↑a.A.length:Int)).bind λi=>
 some (!i))).bind λj=>
 (cond j (some true) ((JV N a b.M b.E).bind λk=>
 some (!k))).bind λl=>
 (cond l (some true) ((C4 N b.Q 0 240).bind λm=>
 some (!m))).bind λn=>
 (cond n (some true) ((GL N b).bind λo=>
 some (!o))).bind λp=>
 (cond p (some true) ((FK N b).bind λq=>
 some (!q))).bind λs=>
 cond s (
 some false) (
 CS N a d t (BO (c+1)))) (
 d)
def Ew (N:Nat) (a:AF):Option Bool:=
 CS N a (Dd N) N 0
def KI (N:Nat) (c:AF) (a:Int) (b:Int):Option Bool:=
 cond (decide (b=(-1))) (
 some (decide (a=2))) (
 (ix c.A b).bind λd=>
 some ((decide (d.At=a))||(decide (d.At=(BO (a+1))))))
def D1 (N:Nat) (a:AF) (g:Option Bool):Nat→Int→Option Bool
 |0,_=>none
 |m+1,d=>
 cond (decide (d<(↑a.C.length:Int))) (
 (ix a.C d).bind λb=>
 (ix a.A b.M).bind λc=>
 (KI N a c.At b.E).bind λi=>
 (cond (!i) (some true) ((cond (decide (b.F=4)) ((ix a.A b.E).bind λj=>
 some (decide (j.At≠c.At))) (some false)).bind λk=>
 some k)).bind λl=>
 cond l (
 some false) (
 D1 N a g m (BO (d+1)))) (
 g)
def Fg (N:Nat):Option Bool:=
 some true
def D3 (N:Nat) (a:AF):Option Bool:=
 D1 N a (Fg N) N 0
def D2 (N:Nat) (a:AF) (c:Option Bool):Nat→Int→Option Bool
 |0,_=>none
 |i+1,b=>
 cond (decide (b<(↑a.A.length:Int))) (
 (ix a.A b).bind λd=>
 (KI N a d.At d.Ao).bind λg=>
 cond (!g) (
 some false) (
 D2 N a c i (BO (b+1)))) (
 c)
def Ho (N:Nat) (a:AF):Option Bool:=
 D2 N a (D3 N a) N 0
def KH (N:Nat) (a:Int):Option Int:=
 some (BO a)
def Gf (N:Nat) (b:Int) (a:Int):Option Int:=
 cond (decide (a=0)) (
 some 0) (
 cond (decide (a<b)) (
 some 1099511627777) (
 (Ht N (IntKind.wrap .u64 b) 1099511627776).bind λd=>
 (GS N d.1 d.2 (IntKind.wrap .u64 a)).bind λc=>
 cond (decide (c.2≠0)) (
 KH N (IntKind.wrap .u64 (c.1+1))) (
 KH N c.1)))
def Ee (N:Nat) (a:Int):Option Int:=
 some a
def FJ (N:Nat) (a:(List BU)) (c:Int→Option Int):Nat→Int→Int→Option Int
 |0,_,_=>none
 |m+1,d,b=>
 cond (decide (b<(↑a.length:Int))) (
 (ix a b).bind λg=>
 (ix a (BO (b-1))).bind λi=>
 (ix a b).bind λj=>
 (ix a (BO (b-1))).bind λk=>
 (Gf N (BO (g.X-i.X)) (BO (j.P-k.P))).bind λl=>
 FJ N a c m (max d l) (BO (b+1))) (
 c d)
def GK (N:Nat) (a:Int) (b:Int→Int→Option Int) (c:Int):Option Int:=
 b c (BO (a+1))
def Dg (N:Nat) (a:(List (List BU))) (c:Int→Option Int):Nat→Int→Int→Option Int
 |0,_,_=>none
 |i+1,g,b=>
 cond (decide (b<(↑a.length:Int))) (
 (ix a b).bind λd=>
 FJ N d (GK N b (Dg N a c i)) N g 1) (
 c g)
def JW (N:Nat) (a:(List (List BU))):Option Int:=
 Dg N a (Ee N) N 0 0
def Cv (N:Nat) (b:Int) (c:Int→(List Int)→Option Bool) (a:List Int):Option Bool:=
 c (BO (b+1)) a
def EF (N:Nat) (b:List Int) (a:A8) (g:(List Int)→Option Bool) (i:Bool):Option Bool:=
 cond i (
 (ix b a.M).bind λn=>
 (ix b a.M).bind λj=>
 (Gf N a.Y a.S).bind λk=>
 (ix b a.M).bind λo=>
 (ix b a.M).bind λp=>
 g (upd b a.M (BO (j+k)))) (
 cond (decide (a.F=4)) (
 (ix b a.M).bind λq=>
 (ix b a.M).bind λc=>
 (Gf N a.Y a.S).bind λd=>
 (ix b a.M).bind λs=>
 (ix b a.M).bind λt=>
 (ix (upd b a.M (BO (c+(BO (2*d))))) a.E).bind λu=>
 (ix (upd b a.M (BO (c+(BO (2*d))))) a.E).bind λl=>
 (Gf N a.Aq a.Al).bind λm=>
 (ix (upd b a.M (BO (c+(BO (2*d))))) a.E).bind λv=>
 (ix (upd b a.M (BO (c+(BO (2*d))))) a.E).bind λw=>
 g (upd (upd b a.M (BO (c+(BO (2*d))))) a.E (BO (l+(BO (2*m)))))) (
 g b))
def IB (N:Nat) (b:Bool→Option Bool) (a:Bool):Option Bool:=
 b a
def B0 (N:Nat) (c:AF) (j:(List Int)→Option Bool):Nat→Int→(List Int)→Option Bool
 |0,_,_=>none
 |k+1,i,b=>
 cond (decide (i<(↑c.C.length:Int))) (
 (ix c.C i).bind λa=>
 cond (decide (a.F=0)) (
 (ix b a.M).bind λn=>
 (ix b a.M).bind λd=>
 (JW N ([a.As,a.Ad.Av,a.Ad.Aw]:List (List BU))).bind λg=>
 (ix b a.M).bind λo=>
 (ix b a.M).bind λp=>
 cond (decide (a.E≠(-1))) (
 (ix (upd b a.M (BO (d+g))) a.E).bind λq=>
 (ix (upd b a.M (BO (d+g))) a.E).bind λl=>
 (Gf N a.Aq a.Al).bind λm=>
 (ix (upd b a.M (BO (d+g))) a.E).bind λs=>
 (ix (upd b a.M (BO (d+g))) a.E).bind λt=>
 Cv N i (B0 N c j k) (upd (upd b a.M (BO (d+g))) a.E (BO (l+m)))) (
 Cv N i (B0 N c j k) (upd b a.M (BO (d+g))))) (
 cond (decide (a.F=1)) (
 EF N b a (Cv N i (B0 N c j k)) (decide (a.F=1))) (
 cond (decide (a.F=5)) (
 IB N (EF N b a (Cv N i (B0 N c j k))) (decide (a.F=5))) (
 IB N (EF N b a (Cv N i (B0 N c j k))) (decide (a.F=3)))))) (
 j b)
def ED (N:Nat) (b:List Int) (c:Option Bool):Nat→Int→Option Bool
 |0,_=>none
 |i+1,a=>
 cond (decide (a<(↑b.length:Int))) (
 (ix b a).bind λg=>
 (ix b a).bind λd=>
 cond (decide (1099511627776<d)) (
 some false) (
 ED N b c i (BO (a+1)))) (
 c)
def GB (N:Nat):Option Bool:=
 some true
def C9 (N:Nat) (a:List Int):Option Bool:=
 ED N a (GB N) N 0
def EG (N:Nat) (a:AF) (b:List Int):Option Bool:=
 B0 N a (C9 N) N 0 b
def EE (N:Nat) (b:AF) (d:(List Int)→Option Bool):Nat→Int→(List Int)→Option Bool
 |0,_,_=>none
 |j+1,a,c=>
 cond (decide (a<(↑b.A.length:Int))) (
 (ix b.A a).bind λg=>
 (Gf N g.Y g.S).bind λi=>
 (ix c a).bind λk=>
 (ix c a).bind λl=>
 EE N b d j (BO (a+1)) (upd c a i)) (
 d c)
def H3 (N:Nat) (a:AF):Option Bool:=
 chk (K3 (↑a.A.length:Int) (↑a.A.length:Int) 8) <|
 EE N a (EG N a) N 0 (List.replicate ((↑a.A.length:Int):Int).toNat (0:Int))
def EU (N:Nat) (a:AF) (c:Option Bool):Nat→Int→Option Bool
 |0,_=>none
 |i+1,b=>
 cond (decide (b<(↑a.Ak.length:Int))) (
 (ix a.Ak b).bind λd=>
 (C4 N d.Aj 0 1073741824).bind λg=>
 cond (!g) (
 some false) (
 EU N a c i (BO (b+1)))) (
 c)
def GX (N:Nat):Option Bool:=
 some true
def EW (N:Nat) (a:AF):Option Bool:=
 EU N a (GX N) N 0
def EV (N:Nat) (a:AF) (d:Option Bool):Nat→Int→Option Bool
 |0,_=>none
 |t+1,c=>
 cond (decide (c<(↑a.Af.length:Int))) (
 (ix a.Af c).bind λb=>
 (Fq N b.Ap (↑a.A.length:Int)).bind λg=>
 (cond (!g) (some true) ((Ct N b.Bp).bind λi=>
 some (!i))).bind λj=>
 (cond j (some true) ((C4 N b.Bn 0 24).bind λk=>
 some (!k))).bind λl=>
 (cond l (some true) ((C4 N b.Bv 0 1073741824).bind λm=>
 some (!m))).bind λn=>
 (cond n (some true) ((Ct N b.Bq).bind λo=>
 some (!o))).bind λp=>
 (cond p (some true) ((C4 N b.Bm 0 128).bind λq=>
 some (!q))).bind λs=>
 cond s (
 some false) (
 EV N a d t (BO (c+1)))) (
 d)
def Ie (N:Nat) (a:AF):Option Bool:=
 EV N a (EW N a) N 0
def GC (N:Nat):Option Bool:=
 some true
def EH (N:Nat) (a:AF) (d:Option Bool):Nat→Int→Option Bool
 |0,_=>none
 |o+1,c=>
 cond (decide (c<(↑a.Ah.length:Int))) (
 (ix a.Ah c).bind λb=>
 (C4 N b.F 0 2).bind λg=>
 (cond (!g) (some true) ((C4 N b.K 0 1099511627776).bind λi=>
 some (!i))).bind λj=>
 (cond j (some true) ((C4 N b.Br 0 1440).bind λk=>
 some (!k))).bind λl=>
 cond l (
 some false) (
 (ix ([(↑a.A.length:Int),a.J,(↑a.C.length:Int)]:List Int) b.F).bind λm=>
 (Fq N b.Aa m).bind λn=>
 cond (!n) (
 some false) (
 EH N a d o (BO (c+1))))) (
 d)
def H4 (N:Nat) (a:AF):Option Bool:=
 EH N a (GC N) N 0
def GY (N:Nat):Option Bool:=
 some true
def EY (N:Nat) (a:AF) (d:Option Bool):Nat→Int→Option Bool
 |0,_=>none
 |u+1,c=>
 cond (decide (c<(↑a.Ai.length:Int))) (
 (ix a.Ai c).bind λb=>
 (Fq N b.M (↑a.Af.length:Int)).bind λg=>
 (cond (!g) (some true) ((Fq N b.E (BO ((↑a.Af.length:Int)+(↑a.Ak.length:Int)))).bind λi=>
 some (!i))).bind λj=>
 (cond (j||(decide (b.M=b.E))) (some true) ((C4 N b.Bw 1 24).bind λk=>
 some (!k))).bind λl=>
 (cond l (some true) ((C4 N b.Bx 0 1073741824).bind λm=>
 some (!m))).bind λn=>
 (cond n (some true) ((Ct N b.Bk).bind λo=>
 some (!o))).bind λp=>
 cond p (
 some false) (
 (cond ((decide (b.Bi=(-1)))&&(decide (b.Bk≠0))) (some true) ((cond (decide (b.Bi≠(-1))) ((Fq N b.Bi (↑a.A.length:Int)).bind λq=>
 some (!q)) (some false)).bind λs=>
 some s)).bind λt=>
 cond t (
 some false) (
 EY N a d u (BO (c+1))))) (
 d)
def If (N:Nat) (a:AF):Option Bool:=
 EY N a (GY N) N 0
def Gg (N:Nat) (a:AF):Option Bool:=
 (Hu N a).bind λv=>
 (cond v ((Jg N a).bind λb=>
 some b) (some false)).bind λc=>
 (cond c ((HI N a).bind λd=>
 some d) (some false)).bind λg=>
 (cond g ((Ew N a).bind λi=>
 some i) (some false)).bind λj=>
 (cond j ((Ho N a).bind λk=>
 some k) (some false)).bind λl=>
 (cond l ((H3 N a).bind λm=>
 some m) (some false)).bind λn=>
 (cond n ((Ie N a).bind λo=>
 some o) (some false)).bind λp=>
 (cond p ((H4 N a).bind λq=>
 some q) (some false)).bind λs=>
 (cond s ((If N a).bind λt=>
 some t) (some false)).bind λu=>
 some u
def HN (N:Nat):Option Bool:=
 some true
def E9 (N:Nat) (a:(List Int)) (c:Option Bool):Nat→Int→Int→Option Bool
 |0,_,_=>none
 |i+1,g,d=>
 cond (decide (d<(↑a.length:Int))) (
 (ix a d).bind λb=>
 cond ((decide (b<0))||(decide ((BO (1125899906842624-g))<b))) (
 some false) (
 E9 N a c i (BO (g+b)) (BO (d+1)))) (
 c)
def I5 (N:Nat) (a:(List Int)):Option Bool:=
 E9 N a (HN N) N 0 0
def KE (N:Nat) (b:(List Int)) (a:Int):Option Bool:=
 (cond (((decide (0≤a))&&(decide (a≤16)))&&(decide ((↑b.length:Int)=a))) ((I5 N b).bind λc=>
 some c) (some false)).bind λd=>
 some d
def Hn (N:Nat) (b:Int) (a:Int):Option Int:=
 cond ((decide (0<a))&&(decide ((BO (9223372036854775807-a))<b))) (
 some 9223372036854775807) (
 cond ((decide (a<0))&&(decide (b<(BO ((-9223372036854775808)-a))))) (
 some (-9223372036854775808)) (
 some (BO (b+a))))
def I0 (N:Nat) (a:Int):Option Int:=
 some a
def HO (N:Nat) (a:(List Int)) (c:Int→Option Int):Nat→Int→Int→Option Int
 |0,_,_=>none
 |j+1,i,b=>
 cond (decide (b<(↑a.length:Int))) (
 (ix a b).bind λd=>
 (Hn N i d).bind λg=>
 HO N a c j g (BO (b+1))) (
 c i)
def Es (N:Nat) (a:(List Int)):Option Int:=
 HO N a (I0 N) N 0 0
def G8 (N:Nat) (b:Int) (a:Int):Option Bool:=
 some ((decide (0≤b))&&(decide (b<a)))
def Gt (N:Nat) (b:AF) (a:AN) (j:Int→Option (Int×Bool)):Nat→Int→Int→Option (Int×Bool)
 |0,_,_=>none
 |o+1,g,i=>
 cond (decide (i<(↑a.I.length:Int))) (
 (ix a.I i).bind λd=>
 (cond (decide (d.Ba<a.B)) (some true) ((G8 N d.E (↑b.A.length:Int)).bind λk=>
 some (!k))).bind λl=>
 (cond l (some true) ((KE N d.W (↑b.H.length:Int)).bind λm=>
 some (!m))).bind λn=>
 cond n (
 some (0,false)) (
 (Es N d.W).bind λc=>
 cond ((decide (c≤0))||(decide (1125899906842624<(BO (g+c))))) (
 some (0,false)) (
 Gt N b a j o (BO (g+c)) (BO (i+1))))) (
 j g)
def IM (N:Nat) (a:Int):Option (Int×Bool):=
 some (a,true)
def Fx (N:Nat) (a:AF) (b:AN) (c:Int):Option (Int×Bool):=
 Gt N a b (IM N) N c 0
def Fw (N:Nat) (b:AF) (a:AN) (g:Int→Option (Int×Bool)):Nat→Int→Int→Option (Int×Bool)
 |0,_,_=>none
 |l+1,c,d=>
 cond (decide (d<(↑a.G.length:Int))) (
 (ix a.G d).bind λi=>
 (KE N i (↑b.H.length:Int)).bind λk=>
 cond (!k) (
 some (0,false)) (
 (Es N i).bind λj=>
 cond (decide (1125899906842624<(BO (c+j)))) (
 some (0,false)) (
 Fw N b a g l (BO (c+j)) (BO (d+1))))) (
 g c)
def KV (N:Nat) (a:AF) (b:AN):Option (Int×Bool):=
 Fw N a b (Fx N a b) N 0 0
def Hr (N:Nat) (a:Int):Option (Int×Bool):=
 some (a,true)
def GP (N:Nat) (b:(List Int)) (a:Int) (g:Int→Option (Int×Bool)):Nat→Int→Int→Option (Int×Bool)
 |0,_,_=>none
 |j+1,i,c=>
 cond (decide (c<(↑b.length:Int))) (
 (ix b c).bind λd=>
 cond ((decide (d<0))||(decide ((BO (a-i))<d))) (
 some (0,false)) (
 GP N b a g j (BO (i+d)) (BO (c+1)))) (
 g i)
def JO (N:Nat) (b:(List Int)) (a:Int):Option (Int×Bool):=
 GP N b a (Hr N) N 0 0
def Gl (N:Nat) (d:AF) (g:AN) (i:Option Bool):Nat→Int→Option Bool
 |0,_=>none
 |j+1,b=>
 cond (decide (b<(↑d.C.length:Int))) (
 (ix d.C b).bind λc=>
 (ix g.R b).bind λa=>
 cond ((((decide (a.Z<0))||(decide (c.V<a.Z)))||(decide (a.Aa<0)))||(decide (c.V<a.Aa))) (
 some false) (
 cond ((a.Am&&(decide (c.F≠5)))&&(decide (c.F≠3))) (
 some false) (
 Gl N d g i j (BO (b+1))))) (
 i)
def Gn (N:Nat) (d:AF) (a:AN):Option Bool:=
 (KV N d a).bind λb=>
 cond (!b.2) (
 some false) (
 (JO N a.L 1152921504606846976).bind λc=>
 cond (!c.2) (
 some false) (
 (JO N a.O (BO ((BO (c.1+1125899906842624))-b.1))).bind λg=>
 some g.2))
def Gp (N:Nat) (a:AF) (b:AN):Option Bool:=
 Gl N a b (Gn N a b) N 0
def Gm (N:Nat) (a:AF) (b:AN) (d:Option Bool):Nat→Int→Option Bool
 |0,_=>none
 |l+1,c=>
 cond (decide (c<(↑a.A.length:Int))) (
 (ix a.A c).bind λk=>
 (ix b.N c).bind λg=>
 (cond (decide (g<0)) (some true) ((ix b.N c).bind λi=>
 some (decide ((max 0 (BO (k.S-1)))<i)))).bind λj=>
 cond j (
 some false) (
 Gm N a b d l (BO (c+1)))) (
 d)
def KD (N:Nat) (b:AF) (a:AN):Option Bool:=
 cond (((((((decide (a.B<0))||(decide (16777216<a.B)))||(decide ((↑a.G.length:Int)≠(↑b.A.length:Int))))||(decide ((↑a.N.length:Int)≠(↑b.A.length:Int))))||(decide ((↑a.R.length:Int)≠(↑b.C.length:Int))))||(decide ((↑a.L.length:Int)≠(↑b.H.length:Int))))||(decide ((↑a.O.length:Int)≠(↑b.H.length:Int)))) (
 some false) (
 Gm N b a (Gp N b a) N 0)
def GG (N:Nat) (a:(List (List Int))):Option (List (List Int)):=
 chk (HJ (([]:List (List Int)).length+a.length) 24) <|
 some (([]:List (List Int))++a)
def Cq (N:Nat) (a:(List AV)):Option (List AV):=
 chk (HJ (([]:List AV).length+a.length) 40) <|
 some (([]:List AV)++a)
def BR (N:Nat) (a:(List A0)):Option (List A0):=
 chk (HJ (([]:List A0).length+a.length) 24) <|
 some (([]:List A0)++a)
def Dq (N:Nat) (c:(List AV)) (d:(List AV)→Option AN):Nat→Int→(List AV)→Option AN
 |0,_,_=>none
 |m+1,a,b=>
 cond (decide (a<(↑c.length:Int))) (
 (ix b a).bind λk=>
 (ix b a).bind λg=>
 (BG N g.W).bind λi=>
 (ix b a).bind λl=>
 (ix b a).bind λj=>
 Dq N c d m (BO (a+1)) (upd b a ({ j with W:=i}))) (
 d b)
def EN (N:Nat) (a:AN) (j:List (List Int)) (b:List AV):Option AN:=
 (BG N a.N).bind λc=>
 (BR N a.R).bind λd=>
 (BG N a.L).bind λg=>
 (BG N a.O).bind λi=>
 some (⟨a.B,j,c,b,d,g,i⟩:AN)
def EO (N:Nat) (a:AN) (c:List (List Int)):Option AN:=
 (Cq N a.I).bind λb=>
 Dq N b (EN N a c) N 0 b
def Dr (N:Nat) (c:(List (List Int))) (d:(List (List Int))→Option AN):Nat→Int→(List (List Int))→Option AN
 |0,_,_=>none
 |k+1,a,b=>
 cond (decide (a<(↑c.length:Int))) (
 (ix b a).bind λl=>
 (ix b a).bind λg=>
 (BG N g).bind λi=>
 (ix b a).bind λm=>
 (ix b a).bind λj=>
 Dr N c d k (BO (a+1)) (upd b a i)) (
 d b)
def Ia (N:Nat) (a:AN):Option AN:=
 (GG N a.G).bind λb=>
 Dr N b (EO N a) N 0 b
def E8 (N:Nat) (a:(List ByteArray)):Option (List ByteArray):=
 chk (HJ (([]:List ByteArray).length+a.length) 16) <|
 some (([]:List ByteArray)++a)
def Cb (N:Nat) (a:(List Ca)):Option (List Ca):=
 chk (HJ (([]:List Ca).length+a.length) 152) <|
 some (([]:List Ca)++a)
def BM (N:Nat) (a:(List BU)):Option (List BU):=
 chk (HJ (([]:List BU).length+a.length) 16) <|
 some (([]:List BU)++a)
def Cs (N:Nat) (a:(List LK)):Option (List LK):=
 chk (HJ (([]:List LK).length+a.length) 16) <|
 some (([]:List LK)++a)
def Cr (N:Nat) (a:(List A8)):Option (List A8):=
 chk (HJ (([]:List A8).length+a.length) 200) <|
 some (([]:List A8)++a)
def Co (N:Nat) (a:(List Kc)):Option (List Kc):=
 chk (HJ (([]:List Kc).length+a.length) 64) <|
 some (([]:List Kc)++a)
def Cc (N:Nat) (a:(List Iz)):Option (List Iz):=
 chk (HJ (([]:List Iz).length+a.length) 48) <|
 some (([]:List Iz)++a)
def Cp (N:Nat) (a:(List Kd)):Option (List Kd):=
 chk (HJ (([]:List Kd).length+a.length) 64) <|
 some (([]:List Kd)++a)
def CM (N:Nat) (a:(List Gi)):Option (List Gi):=
 chk (HJ (([]:List Gi).length+a.length) 24) <|
 some (([]:List Gi)++a)
def Dt (N:Nat) (j:(List A8)) (l:(List A8)→Option AF):Nat→Int→(List A8)→Option AF
 |0,_,_=>none
 |s+1,a,b=>
 cond (decide (a<(↑j.length:Int))) (
 (ix b a).bind λq=>
 (ix b a).bind λm=>
 (BM N m.As).bind λd=>
 (ix b a).bind λg=>
 (ix (upd b a ({ g with As:=d})) a).bind λn=>
 (BM N n.Ad.Av).bind λi=>
 (ix (upd b a ({ g with As:=d})) a).bind λc=>
 (ix (upd (upd b a ({ g with As:=d})) a ({ c with Ad:={ c.Ad with Av:=i}})) a).bind λo=>
 (BM N o.Ad.Aw).bind λp=>
 (ix (upd (upd b a ({ g with As:=d})) a ({ c with Ad:={ c.Ad with Av:=i}})) a).bind λk=>
 Dt N j l s (BO (a+1)) (upd (upd (upd b a ({ g with As:=d})) a ({ c with Ad:={ c.Ad with Av:=i}})) a ({ k with Ad:={ k.Ad with Aw:=p}}))) (
 l b)
def EQ (N:Nat) (a:AF) (k:(List ByteArray)) (l:List Ca) (b:List A8):Option AF:=
 (Co N a.Af).bind λc=>
 (Cc N a.Ah).bind λd=>
 (Cp N a.Ai).bind λg=>
 (CM N a.Ak).bind λi=>
 (BG N a.Aj).bind λj=>
 some (⟨a.D,k,a.J,l,b,c,d,g,i,j,a.K⟩:AF)
def ER (N:Nat) (a:AF) (c:(List ByteArray)) (d:List Ca):Option AF:=
 (Cr N a.C).bind λb=>
 Dt N b (EQ N a c d) N 0 b
def Du (N:Nat) (j:(List Ca)) (k:(List Ca)→Option AF):Nat→Int→(List Ca)→Option AF
 |0,_,_=>none
 |q+1,a,b=>
 cond (decide (a<(↑j.length:Int))) (
 (ix b a).bind λs=>
 (ix b a).bind λp=>
 (BM N p.Bj).bind λc=>
 (ix b a).bind λd=>
 (ix (upd b a ({ d with Bj:=c})) a).bind λl=>
 (BG N l.An).bind λg=>
 (ix (upd b a ({ d with Bj:=c})) a).bind λi=>
 (ix (upd (upd b a ({ d with Bj:=c})) a ({ i with An:=g})) a).bind λm=>
 (Cs N m.T).bind λn=>
 (ix (upd (upd b a ({ d with Bj:=c})) a ({ i with An:=g})) a).bind λo=>
 Du N j k q (BO (a+1)) (upd (upd (upd b a ({ d with Bj:=c})) a ({ i with An:=g})) a ({ o with T:=n}))) (
 k b)
def Ic (N:Nat) (a:AF):Option AF:=
 (E8 N a.H).bind λc=>
 (Cb N a.A).bind λb=>
 Du N b (ER N a c) N 0 b
def KG (N:Nat) (b:AF) (s:AN):Option (Option E5):=
 (Gg N b).bind λa=>
 (cond (!a) (some true) ((KD N b s).bind λc=>
 some (!c))).bind λd=>
 cond d (some none) ((Ia N s).bind λg=>(Ic N b).bind λi=>some (some ⟨i,[(0,⟨-1,iD,g,[]⟩)],1⟩))
def GF (N:Nat):Option Bool:=
 some true
def De (N:Nat) (a:(List Int)) (b:(List Int)) (c:Option Bool):Nat→Int→Option Bool
 |0,_=>none
 |j+1,d=>
 cond (decide (d<(↑a.length:Int))) (
 (ix a d).bind λg=>
 (ix b d).bind λi=>
 cond (decide (g≠i)) (
 some false) (
 De N a b c j (BO (d+1)))) (
 c)
def HB (N:Nat) (a:(List Int)) (b:(List Int)):Option Bool:=
 cond (decide ((↑a.length:Int)≠(↑b.length:Int))) (
 some false) (
 De N a b (GF N) N 0)
def I7 (N:Nat) (c:DC):Option Bool:=
 (HB N c.a c.b).bind λd=>
 some d
def CP (N:Nat):Option Bool:=
 some true
def B9 (N:Nat) (a:(List Gj)) (b:(List Gj)) (c:Option Bool):Nat→Int→Option Bool
 |0,_=>none
 |j+1,d=>
 cond (decide (d<(↑a.length:Int))) (
 (ix a d).bind λg=>
 (ix b d).bind λi=>
 cond (!(Ra g.v i.v)) (
 some false) (
 B9 N a b c j (BO (d+1)))) (
 c)
def DI (N:Nat) (a:(List Gj)) (b:(List Gj)):Option Bool:=
 cond (decide ((↑a.length:Int)≠(↑b.length:Int))) (
 some false) (
 B9 N a b (CP N) N 0)
def Ef (N:Nat) (c:Jj):Option Bool:=
 (DI N c.a c.b).bind λd=>
 some d
def Ch (N:Nat):Option Bool:=
 some true
def CF (N:Nat) (a:(List Kt)) (b:(List Kt)) (c:Option Bool):Nat→Int→Option Bool
 |0,_=>none
 |j+1,d=>
 cond (decide (d<(↑a.length:Int))) (
 (ix a d).bind λg=>
 (ix b d).bind λi=>
 cond (!(Ra g.v i.v)) (
 some false) (
 CF N a b c j (BO (d+1)))) (
 c)
def Db (N:Nat) (a:(List Kt)) (b:(List Kt)):Option Bool:=
 cond (decide ((↑a.length:Int)≠(↑b.length:Int))) (
 some false) (
 CF N a b (Ch N) N 0)
def FA (N:Nat) (c:Mt):Option Bool:=
 (Db N c.a c.b).bind λd=>
 some d
def CT (N:Nat):Option Bool:=
 some true
def CB (N:Nat) (a:(List E4)) (b:(List E4)) (c:Option Bool):Nat→Int→Option Bool
 |0,_=>none
 |j+1,d=>
 cond (decide (d<(↑a.length:Int))) (
 (ix a d).bind λg=>
 (ix b d).bind λi=>
 cond (!(Ra g.v i.v)) (
 some false) (
 CB N a b c j (BO (d+1)))) (
 c)
def DO (N:Nat) (a:(List E4)) (b:(List E4)):Option Bool:=
 cond (decide ((↑a.length:Int)≠(↑b.length:Int))) (
 some false) (
 CB N a b (CT N) N 0)
def Ek (N:Nat) (c:Kr):Option Bool:=
 (DO N c.a c.b).bind λd=>
 some d
def CU (N:Nat):Option Bool:=
 some true
def CC (N:Nat) (a:(List Ih)) (b:(List Ih)) (c:Option Bool):Nat→Int→Option Bool
 |0,_=>none
 |j+1,d=>
 cond (decide (d<(↑a.length:Int))) (
 (ix a d).bind λg=>
 (ix b d).bind λi=>
 cond (!(Ra g.v i.v)) (
 some false) (
 CC N a b c j (BO (d+1)))) (
 c)
def DP (N:Nat) (a:(List Ih)) (b:(List Ih)):Option Bool:=
 cond (decide ((↑a.length:Int)≠(↑b.length:Int))) (
 some false) (
 CC N a b (CU N) N 0)
def El (N:Nat) (c:Ks):Option Bool:=
 (DP N c.a c.b).bind λd=>
 some d
def IZ (N:Nat) (a:By) (b:By):Option Bool:=
 (I7 N (⟨a.T,b.T⟩:DC)).bind λd=>
 (cond d ((Ef N (⟨a.Ab,b.Ab⟩:Jj)).bind λg=>
 some g) (some false)).bind λi=>
 (cond i ((FA N (⟨a.Ac,b.Ac⟩:Mt)).bind λj=>
 some j) (some false)).bind λk=>
 (cond k ((Ek N (⟨a.U,b.U⟩:Kr)).bind λl=>
 some l) (some false)).bind λm=>
 (cond m ((El N (⟨a.Ae,b.Ae⟩:Ks)).bind λc=>
 some c) (some false)).bind λn=>
 some n
def DJ (N:Nat) (a:(List Gj)):Option (List Gj):=
 chk (HJ (([]:List Gj).length+a.length) 16) <|
 some (([]:List Gj)++a)
def Dc (N:Nat) (a:(List Kt)):Option (List Kt):=
 chk (HJ (([]:List Kt).length+a.length) 16) <|
 some (([]:List Kt)++a)
def DQ (N:Nat) (a:(List E4)):Option (List E4):=
 chk (HJ (([]:List E4).length+a.length) 32) <|
 some (([]:List E4)++a)
def DT (N:Nat) (a:(List Ih)):Option (List Ih):=
 chk (HJ (([]:List Ih).length+a.length) 32) <|
 some (([]:List Ih)++a)
def Ib (N:Nat) (a:By):Option By:=
 (BG N a.T).bind λb=>
 (DJ N a.Ab).bind λc=>
 (Dc N a.Ac).bind λd=>
 (DQ N a.U).bind λg=>
 (DT N a.Ae).bind λi=>
 some (⟨b,c,d,g,i⟩:By)
def F5 (N:Nat) (a:AN) (d:List (List Int)):Option AN:=
 (BG N a.N).bind λg=>
 (BR N a.R).bind λi=>
 (BG N a.L).bind λb=>
 (BG N a.O).bind λc=>
 some (⟨a.B,d,g,a.I,i,b,c⟩:AN)
def Fy (N:Nat) (b:AN) (d:(List (List Int))→Option AN):Nat→Int→(List (List Int))→Option AN
 |0,_,_=>none
 |j+1,a,c=>
 cond (decide (a<(↑b.G.length:Int))) (
 (ix b.G a).bind λg=>
 (BG N g).bind λi=>
 (ix c a).bind λk=>
 (ix c a).bind λl=>
 Fy N b d j (BO (a+1)) (upd c a i)) (
 d c)
def KW (N:Nat) (a:AN):Option AN:=
 chk (K3 (↑a.G.length:Int) (↑a.G.length:Int) 24) <|
 Fy N a (F5 N a) N 0 (List.replicate ((↑a.G.length:Int):Int).toNat ([]:(List Int)))
def Gq (N:Nat) (a:A0) (b:Bool) (c:Bool):Option A0:=
 some (⟨a.Z,a.Aa,b,c⟩:A0)
def HQ (N:Nat) (d:A8) (a:A0) (b:Int) (c:Bool→Bool→Option A0) (g:Bool):Option A0:=
 cond g (
 cond (decide (d.F=5)) (
 c a.Ax (decide (b=2))) (
 c a.Ax a.Am)) (
 c a.Ax a.Am)
def IA (N:Nat) (c:A8) (b:A0) (a:Int):Option A0:=
 cond (decide (a=0)) (
 Gq N b true b.Am) (
 cond (decide (a=1)) (
 Gq N b false b.Am) (
 cond (decide (a=2)) (
 HQ N c b a (Gq N b) (decide (a=2))) (
 HQ N c b a (Gq N b) (decide (a=3)))))
def Ge (N:Nat) (c:Int) (b:Int) (a:Int):Option Int:=
 cond (decide (c<b)) (
 some b) (
 cond (decide (a<c)) (
 some a) (
 some c))
def Le (N:Nat) (a:A0) (b:Int):Option A0:=
 some ({ a with Aa:=b}:A0)
def Je (N:Nat) (c:A8) (b:A0) (a:Int):Option A0:=
 cond (decide (c.V≠0)) (
 (Ge N a 0 c.V).bind λd=>
 Le N b d) (
 Le N b b.Aa)
def HR (N:Nat) (b:Int) (a:Int):Option Int:=
 cond ((decide (a<0))&&(decide ((BO (9223372036854775807+a))<b))) (
 some 9223372036854775807) (
 cond ((decide (0<a))&&(decide (b<(BO ((-9223372036854775808)+a))))) (
 some (-9223372036854775808)) (
 some (BO (b-a))))
def II (N:Nat) (b:A8) (a:A0):Option A0:=
 cond a.Ax (
 some a) (
 (HR N a.Aa a.Z).bind λc=>
 (HR N 0 b.Ag).bind λd=>
 (Ge N c d b.Ag).bind λg=>
 (Hn N a.Z g).bind λi=>
 some ({ a with Z:=i}:A0))
def Gw (N:Nat) (a:Int) (b:Int→(List A0)→Option (List A0)) (c:List A0):Option (List A0):=
 b (BO (a+1)) c
def Cz (N:Nat) (p0_w:AK) (g:(List A0)→Option (List A0)):Nat→Int→(List A0)→Option (List A0)
 |0,_,_=>none
 |m+1,d,c=>
 cond (decide (d<(↑p0_w.in_.Ac.length:Int))) (
 (ix p0_w.in_.Ac d).bind λa=>
 (G8 N a.Ar (↑p0_w.b.C.length:Int)).bind λi=>
 cond i (
 (ix p0_w.b.C a.Ar).bind λj=>
 (ix c a.Ar).bind λn=>
 (ix c a.Ar).bind λk=>
 (Je N j k a.Aa).bind λl=>
 (ix c a.Ar).bind λo=>
 (ix c a.Ar).bind λp=>
 Gw N d (Cz N p0_w g m) (upd c a.Ar l)) (
 Gw N d (Cz N p0_w g m) c)) (
 g c)
def Dm (N:Nat) (p0_w:AK):Nat→Int→(List A0)→Option (List A0)
 |0,_,_=>none
 |m+1,a,c=>
 cond (decide (a<(↑p0_w.b.C.length:Int))) (
 (ix p0_w.b.C a).bind λd=>
 (ix c a).bind λj=>
 (ix c a).bind λg=>
 (II N d g).bind λi=>
 (ix c a).bind λk=>
 (ix c a).bind λl=>
 Dm N p0_w m (BO (a+1)) (upd c a i)) (
 some c)
def DU (N:Nat) (p0_w:AK) (a:List A0):Option (List A0):=
 Dm N p0_w N 0 a
def DV (N:Nat) (p0_w:AK) (a:List A0):Option (List A0):=
 Cz N p0_w (DU N p0_w) N 0 a
def Gx (N:Nat) (c:Int) (a:Int→(List A0)→Option (List A0)) (b:List A0):Option (List A0):=
 a (BO (c+1)) b
def C0 (N:Nat) (p0_w:AK) (c:(List A0)→Option (List A0)):Nat→Int→(List A0)→Option (List A0)
 |0,_,_=>none
 |m+1,g,d=>
 cond (decide (g<(↑p0_w.in_.Ab.length:Int))) (
 (ix p0_w.in_.Ab g).bind λa=>
 (G8 N a.Ar (↑p0_w.b.C.length:Int)).bind λi=>
 cond i (
 (ix p0_w.b.C a.Ar).bind λj=>
 (ix d a.Ar).bind λn=>
 (ix d a.Ar).bind λk=>
 (IA N j k a.F).bind λl=>
 (ix d a.Ar).bind λo=>
 (ix d a.Ar).bind λp=>
 Gx N g (C0 N p0_w c m) (upd d a.Ar l)) (
 Gx N g (C0 N p0_w c m) d)) (
 c d)
def G9 (N:Nat) (p0_w:AK):Option (List A0):=
 C0 N p0_w (DV N p0_w) N 0 p0_w.s.R
def Kl (N:Nat) (b:(List Int)) (a:Int):Option Int:=
 (cond ((decide (a<0))||(decide ((↑b.length:Int)≤a))) (some true) ((ix b a).bind λd=>
 some (decide (d<0)))).bind λg=>
 cond g (
 some 0) (
 (ix b a).bind λc=>
 some c)
def K6 (N:Nat) (a:List Int):Option (List Int):=
 some a
def Lx (N:Nat) (a:(List Int)) (b:Int) (c:Int) (d:Int):Option (List Int):=
 chk (K3 (↑a.length:Int) (↑a.length:Int) 8) <|
 (Kl N a b).bind λg=>
 cond ((((decide (0<(min d g)))&&(decide (0≤c)))&&(decide (c<(↑a.length:Int))))&&(decide (b≠c))) (
 (ix (PI (List.replicate ((↑a.length:Int):Int).toNat (0:Int)) a) b).bind λl=>
 (ix (PI (List.replicate ((↑a.length:Int):Int).toNat (0:Int)) a) b).bind λi=>
 (ix (PI (List.replicate ((↑a.length:Int):Int).toNat (0:Int)) a) b).bind λm=>
 (ix (PI (List.replicate ((↑a.length:Int):Int).toNat (0:Int)) a) b).bind λn=>
 (ix (upd (PI (List.replicate ((↑a.length:Int):Int).toNat (0:Int)) a) b (BO (i-(min d g)))) c).bind λo=>
 (ix (upd (PI (List.replicate ((↑a.length:Int):Int).toNat (0:Int)) a) b (BO (i-(min d g)))) c).bind λj=>
 (Hn N j (min d g)).bind λk=>
 (ix (upd (PI (List.replicate ((↑a.length:Int):Int).toNat (0:Int)) a) b (BO (i-(min d g)))) c).bind λp=>
 (ix (upd (PI (List.replicate ((↑a.length:Int):Int).toNat (0:Int)) a) b (BO (i-(min d g)))) c).bind λq=>
 K6 N (upd (upd (PI (List.replicate ((↑a.length:Int):Int).toNat (0:Int)) a) b (BO (i-(min d g)))) c k)) (
 K6 N (PI (List.replicate ((↑a.length:Int):Int).toNat (0:Int)) a))
def Gv (N:Nat) (c:Int) (a:Int→(List (List Int))→Option (List (List Int))) (b:List (List Int)):Option (List (List Int)):=
 a (BO (c+1)) b
def Cy (N:Nat) (p0_w:AK):Nat→Int→(List (List Int))→Option (List (List Int))
 |0,_,_=>none
 |o+1,d,c=>
 cond (decide (d<(↑p0_w.in_.Ae.length:Int))) (
 (ix p0_w.in_.Ae d).bind λa=>
 (G8 N a.Ap (↑p0_w.b.A.length:Int)).bind λg=>
 (cond g ((G8 N a.M (↑p0_w.b.H.length:Int)).bind λi=>
 some i) (some false)).bind λj=>
 (cond j ((G8 N a.E (↑p0_w.b.H.length:Int)).bind λk=>
 some k) (some false)).bind λl=>
 cond l (
 (ix c a.Ap).bind λq=>
 (ix c a.Ap).bind λm=>
 (Lx N m a.M a.E a.Bd).bind λn=>
 (ix c a.Ap).bind λs=>
 (ix c a.Ap).bind λp=>
 Gv N d (Cy N p0_w o) (upd c a.Ap n)) (
 Gv N d (Cy N p0_w o) c)) (
 some c)
def FY (N:Nat) (p0_w:AK):Option (List (List Int)):=
 Cy N p0_w N 0 p0_w.s.G
def EZ (N:Nat) (p0_w:AK) (b:Int→Option ((List (List Int))×(List Int)×(List AT))):Nat→Int→Int→Option ((List (List Int))×(List Int)×(List AT))
 |0,_,_=>none
 |i+1,c,a=>
 cond (decide (a<(↑p0_w.s.I.length:Int))) (
 (ix p0_w.s.I a).bind λd=>
 (Es N d.W).bind λg=>
 EZ N p0_w b i (BO (c+g)) (BO (a+1))) (
 b c)
def HH (N:Nat) (p0_w:AK) (k:Int) (l:Int) (d:Int) (i:List AT) (g:List (List Int)) (c:List Int) (m:Int→Int→(List AT)→(List (List Int))→(List Int)→Option ((List (List Int))×(List Int)×(List AT))) (a:Int):Option ((List (List Int))×(List Int)×(List AT)):=
 cond (decide (a≤0)) (
 m k l i g c) (
 (ix g d).bind λp=>
 (ix g d).bind λj=>
 (ix j 0).bind λn=>
 (ix j 0).bind λq=>
 (ix c 0).bind λt=>
 (ix c 0).bind λo=>
 (ix c 0).bind λu=>
 (ix c 0).bind λv=>
 chk (K3 (↑p0_w.b.H.length:Int) (↑p0_w.b.H.length:Int) 8) <|
 (ix (List.replicate ((↑p0_w.b.H.length:Int):Int).toNat (0:Int)) 0).bind λw=>
 (ix (List.replicate ((↑p0_w.b.H.length:Int):Int).toNat (0:Int)) 0).bind λx=>
 chk (HJ (i.length+([(⟨p0_w.s.B,(-1),d,(-4),(upd (List.replicate ((↑p0_w.b.H.length:Int):Int).toNat (0:Int)) 0 a)⟩:AT)]:List AT).length) 56) <|
 m (BO (k+a)) (BO (l+a)) (i++([(⟨p0_w.s.B,(-1),d,(-4),(upd (List.replicate ((↑p0_w.b.H.length:Int):Int).toNat (0:Int)) 0 a)⟩:AT)]:List AT)) (upd g d (upd j 0 (BO (n+a)))) (upd c 0 (BO (o+a))))
def GJ (N:Nat) (a:Int) (j:Int→Int→Int→(List AT)→(List (List Int))→(List Int)→Option ((List (List Int))×(List Int)×(List AT))) (b:Int) (c:Int) (d:List AT) (g:List (List Int)) (i:List Int):Option ((List (List Int))×(List Int)×(List AT)):=
 j b c (BO (a+1)) d g i
def DD (N:Nat) (p0_w:AK):Nat→Int→Int→Int→(List AT)→(List (List Int))→(List Int)→Option ((List (List Int))×(List Int)×(List AT))
 |0,_,_,_,_,_,_=>none
 |l+1,c,d,a,g,i,j=>
 cond (decide (a<(↑p0_w.b.A.length:Int))) (
 cond (decide (a<(↑p0_w.in_.T.length:Int))) (
 (ix p0_w.in_.T a).bind λk=>
 HH N p0_w c d a g i j (GJ N a (DD N p0_w l)) (min (min k (BO (1125899906842624-c))) (BO (1152921504606846976-d)))) (
 HH N p0_w c d a g i j (GJ N a (DD N p0_w l)) 0)) (
 some (i,j,g))
def Eb (N:Nat) (p0_w:AK) (a:Int):Option ((List (List Int))×(List Int)×(List AT)):=
 (Es N p0_w.s.L).bind λb=>
 DD N p0_w N a b 0 p0_w.moves p0_w.s.G p0_w.s.L
def Ec (N:Nat) (p0_w:AK) (a:Int):Option ((List (List Int))×(List Int)×(List AT)):=
 EZ N p0_w (Eb N p0_w) N a 0
def Ea (N:Nat) (p0_w:AK) (b:Int→Option ((List (List Int))×(List Int)×(List AT))):Nat→Int→Int→Option ((List (List Int))×(List Int)×(List AT))
 |0,_,_=>none
 |i+1,g,a=>
 cond (decide (a<(↑p0_w.s.G.length:Int))) (
 (ix p0_w.s.G a).bind λj=>
 (ix p0_w.s.G a).bind λc=>
 (Es N c).bind λd=>
 Ea N p0_w b i (BO (g+d)) (BO (a+1))) (
 b g)
def JP (N:Nat) (p0_w:AK):Option ((List (List Int))×(List Int)×(List AT)):=
 Ea N p0_w (Ec N p0_w) N 0 0
def IG (N:Nat) (a:List Int):Option (List Int):=
 some a
def Gc (N:Nat) (c:(List Int)) (d:(List Int)→Option (List Int)):Nat→Int→(List Int)→Option (List Int)
 |0,_,_=>none
 |k+1,a,b=>
 cond (decide (a<(↑c.length:Int))) (
 (ix c a).bind λg=>
 (ix b a).bind λl=>
 (ix b a).bind λi=>
 (Hn N i g).bind λj=>
 (ix b a).bind λm=>
 (ix b a).bind λn=>
 Gc N c d k (BO (a+1)) (upd b a j)) (
 d b)
def HY (N:Nat) (a:(List Int)) (b:(List Int)):Option (List Int):=
 chk (K3 (max (↑a.length:Int) (↑b.length:Int)) (max (↑a.length:Int) (↑b.length:Int)) 8) <|
 Gc N b (IG N) N 0 (PI (List.replicate ((max (↑a.length:Int) (↑b.length:Int)):Int).toNat (0:Int)) a)
def J2 (N:Nat) (a:Int) (b:(List AV)→Int→(List (List Int))→Option ((List (List Int))×(List AV))) (c:List AV) (d:List (List Int)):Option ((List (List Int))×(List AV)):=
 b c (BO (a+1)) d
def Gb (N:Nat) (d:(List AV)) (b:Int) (n:Int) (k:(List AV)→(List (List Int))→Option ((List (List Int))×(List AV))):Nat→(List AV)→Int→(List (List Int))→Option ((List (List Int))×(List AV))
 |0,_,_,_=>none
 |o+1,g,i,c=>
 cond (decide (i<(↑d.length:Int))) (
 (ix d i).bind λa=>
 cond (((decide (a.Ba≤b))&&(decide (0≤a.E)))&&(decide (a.E<n))) (
 (ix c a.E).bind λp=>
 (ix c a.E).bind λl=>
 (HY N l a.W).bind λm=>
 (ix c a.E).bind λq=>
 (ix c a.E).bind λs=>
 J2 N i (Gb N d b n k o) g (upd c a.E m)) (
 (BG N a.W).bind λj=>
 chk (HJ (g.length+([({ a with W:=j}:AV)]:List AV).length) 40) <|
 J2 N i (Gb N d b n k o) (g++([({ a with W:=j}:AV)]:List AV)) c)) (
 k g c)
def IX (N:Nat) (a:List AV) (b:List (List Int)):Option ((List (List Int))×(List AV)):=
 some (b,a)
def HD (N:Nat) (b:(List AV)) (a:Int) (d:Int) (c:List (List Int)):Option ((List (List Int))×(List AV)):=
 Gb N b a d (IX N) N ([]:List AV) 0 c
def HC (N:Nat) (g:Int) (d:Int) (c:(List (List Int))→Option ((List (List Int))×(List AV))):Nat→Int→(List (List Int))→Option ((List (List Int))×(List AV))
 |0,_,_=>none
 |i+1,a,b=>
 cond (decide (a<(↑(List.replicate (g:Int).toNat ([]:(List Int))).length:Int))) (
 chk (K3 d d 8) <|
 (ix b a).bind λj=>
 (ix b a).bind λk=>
 HC N g d c i (BO (a+1)) (upd b a (List.replicate (d:Int).toNat (0:Int)))) (
 c b)
def Lv (N:Nat) (d:(List AV)) (c:Int) (a:Int) (b:Int):Option ((List (List Int))×(List AV)):=
 (Ge N a 0 64).bind λg=>
 (Ge N b 0 16).bind λi=>
 chk (K3 g g 24) <|
 HC N g i (HD N d c g) N 0 (List.replicate (g:Int).toNat ([]:(List Int)))
def JR (N:Nat) (a:A0) (b:Bool):Option A0:=
 some ({ a with Am:=b}:A0)
def Hh (N:Nat) (b:A8) (a:A0) (c:Int):Option A0:=
 cond (decide (b.F≠3)) (
 some a) (
 cond (decide (b.Ay≤c)) (
 JR N a true) (
 cond (decide (c≤b.Az)) (
 JR N a false) (
 JR N a a.Am)))
def Ff (N:Nat) (a:Int) (c:Int→(List A0)→Option ((List (List Int))×(List AV)×(List A0)×(List Int))) (b:List A0):Option ((List (List Int))×(List AV)×(List A0)×(List Int)):=
 c (BO (a+1)) b
def Cd (N:Nat) (p0_w:AK) (j:(List (List Int))×(List AV)) (i:List (List Int)) (d:List Int):Nat→Int→(List A0)→Option ((List (List Int))×(List AV)×(List A0)×(List Int))
 |0,_,_=>none
 |n+1,a,c=>
 cond (decide (a<(↑p0_w.b.C.length:Int))) (
 (ix p0_w.b.C a).bind λg=>
 cond (decide (g.F=3)) (
 (ix c a).bind λo=>
 (ix c a).bind λk=>
 (ix d g.M).bind λp=>
 (ix d g.M).bind λl=>
 (Hh N g k l).bind λm=>
 (ix c a).bind λq=>
 (ix c a).bind λs=>
 Ff N a (Cd N p0_w j i d n) (upd c a m)) (
 Ff N a (Cd N p0_w j i d n) c)) (
 some (i,j.2,c,d))
def DH (N:Nat) (p0_w:AK) (c:(List (List Int))×(List AV)) (a:List (List Int)) (b:List Int):Option ((List (List Int))×(List AV)×(List A0)×(List Int)):=
 Cd N p0_w c a b N 0 p0_w.s.R
def C1 (N:Nat) (p0_w:AK) (i:(List (List Int))×(List AV)) (j:(List (List Int))→(List Int)→Option ((List (List Int))×(List AV)×(List A0)×(List Int))):Nat→Int→(List (List Int))→(List Int)→Option ((List (List Int))×(List AV)×(List A0)×(List Int))
 |0,_,_,_=>none
 |w+1,a,c,d=>
 cond (decide (a<(↑p0_w.b.A.length:Int))) (
 (ix c a).bind λo=>
 (ix c a).bind λk=>
 (ix i.1 a).bind λp=>
 (ix i.1 a).bind λl=>
 (HY N k l).bind λg=>
 (ix c a).bind λq=>
 (ix c a).bind λs=>
 (ix (upd c a g) a).bind λt=>
 (ix (upd c a g) a).bind λm=>
 (Es N m).bind λn=>
 (ix d a).bind λu=>
 (ix d a).bind λv=>
 C1 N p0_w i j w (BO (a+1)) (upd c a g) (upd d a n)) (
 j c d)
def Fi (N:Nat) (p0_w:AK):Option ((List (List Int))×(List AV)×(List A0)×(List Int)):=
 (Lv N p0_w.s.I p0_w.s.B (↑p0_w.b.A.length:Int) (↑p0_w.b.H.length:Int)).bind λa=>
 C1 N p0_w a (DH N p0_w a) N 0 p0_w.s.G p0_w.peaks
def Hs (N:Nat) (a:List Int):Option (List Int):=
 some a
def GR (N:Nat) (a:(List Int)) (d:(List Int)→Option (List Int)):Nat→Int→(List Int)→Option (List Int)
 |0,_,_=>none
 |j+1,b,c=>
 cond (decide (b<(↑a.length:Int))) (
 (ix a b).bind λg=>
 (ix c b).bind λk=>
 (ix c b).bind λi=>
 (ix c b).bind λl=>
 (ix c b).bind λm=>
 GR N a d j (BO (b+1)) (upd c b (BO (i-g)))) (
 d c)
def IY (N:Nat) (a:(List Int)) (b:(List Int)):Option (List Int):=
 chk (K3 (↑a.length:Int) (↑a.length:Int) 8) <|
 GR N b (Hs N) N 0 (PI (List.replicate ((↑a.length:Int):Int).toNat (0:Int)) a)
def JS (N:Nat) (a:(List Int)) (b:List Int):Option ((List Int)×(List Int)):=
 (IY N a b).bind λc=>
 some (b,c)
def Ly (N:Nat) (b:(List Int)) (a:Int) (c:Int):Option ((List Int)×(List Int)):=
 chk (K3 (↑b.length:Int) (↑b.length:Int) 8) <|
 (Kl N b a).bind λd=>
 cond (decide (0<(min c d))) (
 (ix (List.replicate ((↑b.length:Int):Int).toNat (0:Int)) a).bind λg=>
 (ix (List.replicate ((↑b.length:Int):Int).toNat (0:Int)) a).bind λi=>
 JS N b (upd (List.replicate ((↑b.length:Int):Int).toNat (0:Int)) a (min c d))) (
 JS N b (List.replicate ((↑b.length:Int):Int).toNat (0:Int)))
def D4 (N:Nat) (b:E4) (a:(List Int)):Option ((List Int)×(List Int)):=
 (Ly N a b.Bh b.Bd).bind λc=>
 some (c.1,c.2)
def Dk (N:Nat) (a:List AC):Option (List AC):=
 some a
def Gu (N:Nat) (a:Int) (b:(List AC)→Int→Option (List AC)) (c:List AC):Option (List AC):=
 b c (BO (a+1))
def Cf (N:Nat) (p0_w:AK) (a:Int) (g:(List AC)→Option (List AC)):Nat→(List AC)→Int→Option (List AC)
 |0,_,_=>none
 |j+1,i,d=>
 cond (decide (d<(↑p0_w.in_.U.length:Int))) (
 (ix p0_w.in_.U d).bind λc=>
 (cond (decide (c.Ap≠a)) (some true) ((G8 N c.Bh (↑p0_w.b.H.length:Int)).bind λk=>
 some (!k))).bind λl=>
 cond (l||(decide (c.Bd≤0))) (
 Gu N d (Cf N p0_w a g j) i) (
 (cond (decide (c.E≠(-1))) ((G8 N c.E (↑p0_w.b.A.length:Int)).bind λm=>
 (cond (!m) (some true) ((ix p0_w.b.A c.E).bind λn=>
 (ix p0_w.b.A a).bind λo=>
 some (decide (n.At≠o.At)))).bind λp=>
 some p) (some false)).bind λq=>
 cond q (
 Gu N d (Cf N p0_w a g j) i) (
 chk (HJ (i.length+1) 32) <|
 Gu N d (Cf N p0_w a g j) (i++([(⟨c.E,0,(-3),(λx=>D4 N c x)⟩:AC)]:List AC))))) (
 g i)
def I3 (N:Nat) (p0_w:AK) (a:Int):Option (List AC):=
 Cf N p0_w a (Dk N) N ([]:List AC) 0
def IH (N:Nat) (c:Int) (a:Int) (b:Int):Option Int:=
 (Gd N c a b).bind λd=>
 cond (!d.2.2) (
 some 0) (
 some d.1)
def Lz (N:Nat) (b:A8) (a:Int) (c:Int):Option Int:=
 cond (decide (b.E=(-1))) (
 some a) (
 (IH N c b.Aq b.Al).bind λd=>
 (HR N a d).bind λg=>
 some (max 0 g))
def Mn (N:Nat) (a:(List BU)) (b:Int):Option Int:=
 (FH N a).bind λc=>
 cond (!c) (
 some 0) (
 (JJ N a b).bind λd=>
 some d.1)
def JU (N:Nat):Option Int:=
 some 0
def JT (N:Nat) (a:A8) (b:Int):Option Int:=
 (HR N b a.Bc).bind λd=>
 (IH N (max 0 d) a.Y a.S).bind λc=>
 some c
def LA (N:Nat) (a:Bool) (b:Option Int):Option Int:=
 cond (!a) (
 some 0) (
 b)
def K9 (N:Nat) (c:A8) (a:Bool) (b:Int) (d:Option Int):Option Int:=
 cond a (
 (IH N b c.Y c.S).bind λg=>
 some g) (
 d)
def K8 (N:Nat) (b:A8) (a:Int):Option Int:=
 (IH N b.Y a b.V).bind λc=>
 some c
def K7 (N:Nat) (a:A8) (c:Int) (g:(List BU)) (b:Int) (d:Int):Option Int:=
 (Lz N a b d).bind λi=>
 (Mn N g i).bind λj=>
 (IH N j c a.V).bind λk=>
 (Hn N k a.Bb).bind λl=>
 some l
def L0 (N:Nat) (a:A8) (d:Int) (c:Bool) (i:(List BU)) (b:Int) (g:Int):Option Int:=
 cond (decide (a.F=0)) (
 K7 N a d i b g) (
 cond (decide (a.F=2)) (
 K8 N a d) (
 cond (decide (a.F=3)) (
 K9 N a c b (JU N)) (
 cond (decide (a.F=5)) (
 LA N c (JT N a b)) (
 cond (decide (a.F=1)) (
 JT N a b) (
 JU N)))))
def Mm (N:Nat) (b:A8) (c:A0) (a:Int) (d:Int):Option Int:=
 (L0 N b c.Z c.Am b.As a d).bind λg=>
 some g
def Hg (N:Nat) (a:Int):Option Int:=
 some a
def F7 (N:Nat) (c:Int) (a:(List Int)) (n:Int) (k:Int→(List Int)→(List Int)→(List Int)→Option ((List Int)×Bool)):Nat→Int→Int→(List Int)→(List Int)→(List Int)→Option ((List Int)×Bool)
 |0,_,_,_,_,_=>none
 |v+1,l,b,g,i,j=>
 cond (decide (b<(↑a.length:Int))) (
 (ix a b).bind λm=>
 (Gd N c m n).bind λd=>
 (ix j b).bind λo=>
 (ix j b).bind λp=>
 (ix i b).bind λq=>
 (ix i b).bind λs=>
 (ix g b).bind λt=>
 (ix g b).bind λu=>
 F7 N c a n k v (BO (l-d.1)) (BO (b+1)) (upd g b b) (upd i b d.2.1) (upd j b d.1)) (
 k l g i j)
def F6 (N:Nat) (c:List Int) (g:(List Int)→Option ((List Int)×Bool)):Nat→Int→(List Int)→Option ((List Int)×Bool)
 |0,_,_=>none
 |m+1,d,a=>
 cond (decide (d<(↑c.length:Int))) (
 (ix c d).bind λb=>
 (ix a b).bind λj=>
 (ix a b).bind λi=>
 (ix a b).bind λk=>
 (ix a b).bind λl=>
 F6 N c g m (BO (d+1)) (upd a b (BO (i+1)))) (
 g a)
def HZ (N:Nat) (a:List Int):Option ((List Int)×Bool):=
 some (a,true)
def F9 (N:Nat) (c:Int) (d:List Int) (g:List Int) (i:List Int):Option ((List Int)×Bool):=
 (SY d g).bind λa=>
 (xT a c).bind λb=>
 F6 N b (HZ N) N 0 i
def GA (N:Nat) (b:Int) (a:(List Int)) (c:Int):Option ((List Int)×Bool):=
 cond ((decide (b<0))||(decide (c<b))) (
 some (([]:List Int),false)) (
 chk (K3 (↑a.length:Int) (↑a.length:Int) 8) <|
 cond (decide (c=0)) (
 some ((List.replicate ((↑a.length:Int):Int).toNat (0:Int)),true)) (
 chk (K3 (↑a.length:Int) (↑a.length:Int) 8) <|
 chk (K3 (↑a.length:Int) (↑a.length:Int) 8) <|
 F7 N b a c (F9 N) N b 0 (List.replicate ((↑a.length:Int):Int).toNat (0:Int)) (List.replicate ((↑a.length:Int):Int).toNat (0:Int)) (List.replicate ((↑a.length:Int):Int).toNat (0:Int))))
def F8 (N:Nat) (a:(List Int)) (g:Int→Option ((List Int)×Bool)):Nat→Int→Int→Option ((List Int)×Bool)
 |0,_,_=>none
 |i+1,b,c=>
 cond (decide (c<(↑a.length:Int))) (
 (ix a c).bind λd=>
 cond ((decide (d<0))||(decide ((BO (1125899906842624-b))<d))) (
 some (([]:List Int),false)) (
 F8 N a g i (BO (b+d)) (BO (c+1)))) (
 g b)
def KX (N:Nat) (b:Int) (a:(List Int)):Option ((List Int)×Bool):=
 cond (decide (64<(↑a.length:Int))) (
 some (([]:List Int),false)) (
 F8 N a (GA N b a) N 0 0)
def Hm (N:Nat) (a:(List Int)) (b:List Int):Option ((List Int)×(List Int)):=
 (IY N a b).bind λc=>
 some (b,c)
def J3 (N:Nat) (a:(List Int)→Option ((List Int)×(List Int))) (b:List Int):Option ((List Int)×(List Int)):=
 a b
def Lw (N:Nat) (a:(List Int)) (b:Int):Option ((List Int)×(List Int)):=
 chk (K3 (↑a.length:Int) (↑a.length:Int) 8) <|
 (cond ((decide (0<b))&&(decide ((↑a.length:Int)≤64))) ((I5 N a).bind λd=>
 some d) (some false)).bind λg=>
 cond g (
 (Es N a).bind λi=>
 (KX N (min b i) a).bind λc=>
 cond c.2 (
 J3 N (Hm N a) (PI (List.replicate ((↑a.length:Int):Int).toNat (0:Int)) c.1)) (
 J3 N (Hm N a) (List.replicate ((↑a.length:Int):Int).toNat (0:Int)))) (
 Hm N a (List.replicate ((↑a.length:Int):Int).toNat (0:Int)))
def AJ (N:Nat) (b:Int) (a:(List Int)):Option ((List Int)×(List Int)):=
 (Lw N a b).bind λc=>
 some (c.1,c.2)
def Kx (N:Nat) (c:Int) (a:Int) (b:Int):Option Int:=
 (Gd N c a b).bind λd=>
 cond (!d.2.2) (
 some 0) (
 some d.1)
def LV (N:Nat) (a:A8) (b:Int) (c:Int):Option Int:=
 cond (decide (a.F≠4)) (
 some 0) (
 (Kx N b a.Y a.S).bind λd=>
 (Kx N c a.Aq a.Al).bind λg=>
 some (BO (d-g)))
def Dn (N:Nat) (a:List AC):Option (List AC):=
 some a
def Hl (N:Nat) (p0_w:AK) (c:Int) (m:List AC) (b:Int) (a:A8) (g:(List AC)→Option (List AC)) (i:Int):Option (List AC):=
 (ix p0_w.s.R b).bind λn=>
 (ix p0_w.s.R b).bind λj=>
 (ix p0_w.peaks c).bind λo=>
 (ix p0_w.peaks c).bind λk=>
 (Mm N a j k i).bind λl=>
 (Hg N l).bind λd=>
 chk (HJ (m.length+([(⟨a.E,a.Q,b,(λx=>AJ N d x)⟩:AC)]:List AC).length) 32) <|
 g (m++([(⟨a.E,a.Q,b,(λx=>AJ N d x)⟩:AC)]:List AC))
def EA (N:Nat) (a:Int) (b:(List AC)→Int→Option (List AC)) (c:List AC):Option (List AC):=
 b c (BO (a+1))
def CH (N:Nat) (p0_w:AK) (c:Int) (g:(List AC)→Option (List AC)):Nat→(List AC)→Int→Option (List AC)
 |0,_,_=>none
 |l+1,i,d=>
 cond (decide (d<(↑p0_w.b.C.length:Int))) (
 (ix p0_w.b.C d).bind λa=>
 cond ((decide (a.M=c))&&(decide (a.F≠4))) (
 cond (decide (a.E≠(-1))) (
 (ix p0_w.peaks a.E).bind λA=>
 (ix p0_w.peaks a.E).bind λu=>
 Hl N p0_w c i d a (EA N d (CH N p0_w c g l)) u) (
 Hl N p0_w c i d a (EA N d (CH N p0_w c g l)) 0)) (
 cond (decide (a.M=c)) (
 (ix p0_w.peaks c).bind λv=>
 (ix p0_w.peaks c).bind λm=>
 (ix p0_w.peaks a.E).bind λw=>
 (ix p0_w.peaks a.E).bind λn=>
 (LV N a m n).bind λo=>
 (Hg N o).bind λj=>
 chk (HJ (i.length+([(⟨a.E,a.Q,d,(λx=>AJ N j x)⟩:AC)]:List AC).length) 32) <|
 EA N d (CH N p0_w c g l) (i++([(⟨a.E,a.Q,d,(λx=>AJ N j x)⟩:AC)]:List AC))) (
 cond ((decide (a.E=c))&&(decide (a.F=4))) (
 (ix p0_w.peaks a.M).bind λy=>
 (ix p0_w.peaks a.M).bind λp=>
 (ix p0_w.peaks c).bind λz=>
 (ix p0_w.peaks c).bind λq=>
 (LV N a p q).bind λs=>
 (HR N 0 s).bind λt=>
 (Hg N t).bind λk=>
 chk (HJ (i.length+([(⟨a.M,a.Q,d,(λx=>AJ N k x)⟩:AC)]:List AC).length) 32) <|
 EA N d (CH N p0_w c g l) (i++([(⟨a.M,a.Q,d,(λx=>AJ N k x)⟩:AC)]:List AC))) (
 EA N d (CH N p0_w c g l) i)))) (
 g i)
def I4 (N:Nat) (p0_w:AK) (a:Int):Option (List AC):=
 CH N p0_w a (Dn N) N ([]:List AC) 0
def CR (N:Nat) (a:List AC):Option (List AC):=
 some a
def Cg (N:Nat) (a:Int):Option (List AC):=
 cond (decide (a<0)) (
 none) (
 cond (decide (0<(BO (a-(BO (0-0)))))) (
 chk (decide (0<(BO (a-(BO (0-0)))))) <|
 chk (HJ ((BO (a-(BO (0-0)))):Int).toNat 32) <|
 CR N ([]:List AC)) (
 CR N ([]:List AC)))
def B5 (N:Nat) (a:(List (List AC))) (d:(List AC)→Option (List AC)):Nat→(List AC)→Int→Option (List AC)
 |0,_,_=>none
 |i+1,b,c=>
 cond (decide (c<(↑a.length:Int))) (
 (ix a c).bind λg=>
 chk (HJ (b.length+g.length) 32) <|
 B5 N a d i (b++g) (BO (c+1))) (
 d b)
def C2 (N:Nat) (a:List AC):Option (List AC):=
 some a
def CL (N:Nat) (a:(List (List AC))) (c:Int):Option (List AC):=
 (Cg N c).bind λb=>
 B5 N a (C2 N) N b 0
def B6 (N:Nat) (a:(List (List AC))) (c:Int→Option (List AC)):Nat→Int→Int→Option (List AC)
 |0,_,_=>none
 |i+1,g,b=>
 cond (decide (b<(↑a.length:Int))) (
 (ix a b).bind λd=>
 cond (decide ((BO (g+(↑d.length:Int)))<0)) (
 none) (
 B6 N a c i (BO (g+(↑d.length:Int))) (BO (b+1)))) (
 c g)
def CV (N:Nat) (a:(List (List AC))):Option (List AC):=
 B6 N a (CL N a) N 0 0
def Ej (N:Nat):Option Int:=
 some (-1)
def DX (N:Nat) (a:(List Int)) (b:(Int→Option Bool)) (c:Option Int):Nat→Int→Option Int
 |0,_=>none
 |j+1,d=>
 cond (decide (d<(↑a.length:Int))) (
 (ix a d).bind λg=>
 (b g).bind λi=>
 cond i (
 some d) (
 DX N a b c j (BO (d+1)))) (
 c)
def Fj (N:Nat) (a:(List Int)) (b:(Int→Option Bool)):Option Int:=
 DX N a b (Ej N) N 0
def GQ (N:Nat) (a:(List Int)) (b:(Int→Option Bool)):Option Bool:=
 (Fj N a b).bind λc=>
 some (decide (0≤c))
def IW (N:Nat) (a:Int):Option Bool:=
 some (decide (0<a))
def K5 (N:Nat) (c:Int) (b:Int) (a:(List Int)):Option (List AV):=
 (cond (decide (b<0)) (some true) ((GQ N a (λx=>IW N x)).bind λg=>
 some (!g))).bind λi=>
 cond i (
 some ([]:List AV)) (
 (BG N a).bind λd=>
 chk (HJ (([]:List AV).length+1) 40) <|
 some (([]:List AV)++([(⟨c,b,d⟩:AV)]:List AV)))
def HW (N:Nat) (p0_w:AK) (a:Int) (b:AC):Option ((List (List Int))×(List Int)×(List AT)×(List AV)):=
 (ix p0_w.s.G a).bind λm=>
 (ix p0_w.s.G a).bind λj=>
 (b.take j).bind λc=>
 (ix p0_w.s.G a).bind λk=>
 (ix p0_w.s.G a).bind λl=>
 (Es N c.1).bind λg=>
 cond (decide (g≤0)) (
 some ((upd p0_w.s.G a c.2),p0_w.s.O,p0_w.moves,p0_w.sent)) (
 chk (HJ (p0_w.moves.length+([(⟨p0_w.s.B,a,b.to_,b.way,c.1⟩:AT)]:List AT).length) 56) <|
 cond (decide (b.to_=(-1))) (
 (HY N p0_w.s.O c.1).bind λi=>
 some ((upd p0_w.s.G a c.2),i,(p0_w.moves++([(⟨p0_w.s.B,a,b.to_,b.way,c.1⟩:AT)]:List AT)),p0_w.sent)) (
 (K5 N (BO ((BO (p0_w.s.B+1))+b.delay)) b.to_ c.1).bind λd=>
 chk (HJ (p0_w.sent.length+d.length) 40) <|
 some ((upd p0_w.s.G a c.2),p0_w.s.O,(p0_w.moves++([(⟨p0_w.s.B,a,b.to_,b.way,c.1⟩:AT)]:List AT)),(p0_w.sent++d))))
def HX (N:Nat) (a:Ca) (b:Int×Int×Bool) (c:Int):Option (Int×Int):=
 cond (decide ((BO (b.2.1+c))<a.S)) (
 some (b.1,(BO (b.2.1+c)))) (
 some ((BO (b.1+1)),(BO ((BO (b.2.1+c))-a.S))))
def JI (N:Nat) (a:Ca) (d:Int) (b:Int):Option (Int×Int):=
 (Gd N d a.Y a.S).bind λc=>
 cond (!c.2.2) (
 some (0,0)) (
 cond ((decide (0≤b))&&(decide (b<a.S))) (
 HX N a c b) (
 HX N a c 0))
def Ei (N:Nat) (p0_w:AK) (d:Int) (o:Ca) (g:List (List Int)) (i:List Int) (j:List AT) (k:List AV) (l:Int×Int) (n:(List (List Int))→(List Int)→(List AT)→(List AV)→(List Int)→Option ((List (List Int))×(List Int)×(List Int)×(List AT)×(List AV))) (c:List Int):Option ((List (List Int))×(List Int)×(List Int)×(List AT)×(List AV)):=
 (Hg N l.1).bind λm=>
 (HW N (⟨p0_w.b,p0_w.in_,(⟨p0_w.s.B,g,c,p0_w.s.I,p0_w.s.R,p0_w.s.L,i⟩:AN),j,p0_w.peaks,k⟩:AK) d (⟨o.Ao,o.Q,(-1),(λx=>AJ N m x)⟩:AC)).bind λa=>
 n a.1 a.2.1 a.2.2.1 a.2.2.2 c
def DG (N:Nat) (p0_w:AK) (d:Int) (o:Ca) (a:List (List Int)) (i:List Int) (j:List AT) (k:List AV) (g:List Int):Option ((List (List Int))×(List Int)×(List Int)×(List AT)×(List AV)):=
 (ix a d).bind λp=>
 (ix a d).bind λm=>
 (Es N m).bind λl=>
 cond (decide (0<(BO (l-o.Au)))) (
 (Hg N (BO (l-o.Au))).bind λn=>
 (HW N (⟨p0_w.b,p0_w.in_,(⟨p0_w.s.B,a,g,p0_w.s.I,p0_w.s.R,p0_w.s.L,i⟩:AN),j,p0_w.peaks,k⟩:AK) d (⟨o.Ao,o.Q,(-2),(λx=>AJ N n x)⟩:AC)).bind λc=>
 some (c.1,g,c.2.1,c.2.2.1,c.2.2.2)) (
 some (a,g,i,j,k))
def Fh (N:Nat) (p0_w:AK) (a:Int) (j:Ca) (b:List (List Int)) (d:List Int) (g:List AT) (i:List AV):Option ((List (List Int))×(List Int)×(List Int)×(List AT)×(List AV)):=
 cond (decide (j.S≠0)) (
 (ix p0_w.peaks a).bind λo=>
 (ix p0_w.peaks a).bind λk=>
 (ix p0_w.s.N a).bind λp=>
 (ix p0_w.s.N a).bind λl=>
 (JI N j k l).bind λc=>
 (ix p0_w.s.N a).bind λq=>
 (ix p0_w.s.N a).bind λt=>
 (ix b a).bind λu=>
 (ix b a).bind λm=>
 (Es N m).bind λn=>
 cond (decide (c.1≤n)) (
 (ix (upd p0_w.s.N a 0) a).bind λv=>
 (ix (upd p0_w.s.N a 0) a).bind λw=>
 Ei N p0_w a j b d g i c (DG N p0_w a j) (upd (upd p0_w.s.N a 0) a c.2)) (
 Ei N p0_w a j b d g i c (DG N p0_w a j) (upd p0_w.s.N a 0))) (
 DG N p0_w a j b d g i p0_w.s.N)
def DW (N:Nat) (p0_w:AK) (g:Int) (d:(List AC)) (m:(List (List Int))→(List Int)→(List AT)→(List AV)→Option ((List (List Int))×(List Int)×(List Int)×(List AT)×(List AV))):Nat→Int→(List (List Int))→(List Int)→(List AT)→(List AV)→Option ((List (List Int))×(List Int)×(List Int)×(List AT)×(List AV))
 |0,_,_,_,_,_=>none
 |p+1,a,i,j,k,l=>
 cond (decide (a<(↑d.length:Int))) (
 (ix d a).bind λo=>
 (ix d a).bind λn=>
 (HW N (⟨p0_w.b,p0_w.in_,(⟨p0_w.s.B,i,p0_w.s.N,p0_w.s.I,p0_w.s.R,p0_w.s.L,j⟩:AN),k,p0_w.peaks,l⟩:AK) g n).bind λc=>
 DW N p0_w g d m p (BO (a+1)) c.1 c.2.1 c.2.2.1 c.2.2.2) (
 m i j k l)
def HA (N:Nat) (p0_w:AK) (a:Int):Option ((List (List Int))×(List Int)×(List Int)×(List AT)×(List AV)):=
 (ix p0_w.b.A a).bind λi=>
 (I3 N p0_w a).bind λc=>
 (I4 N p0_w a).bind λd=>
 (CV N ([c,d]:List (List AC))).bind λg=>
 DW N p0_w a g (Fh N p0_w a i) N 0 p0_w.s.G p0_w.s.O p0_w.moves p0_w.sent
def E7 (N:Nat) (k:AN) (c:(List (List Int))×(List Int)×(List AT)) (a:(List (List Int))×(List AV)×(List A0)×(List Int)) (d:List (List Int)) (g:List Int) (i:List Int) (j:List AT) (b:List AV):Option (AN×(List AT)×(List Int)):=
 chk (HJ (a.2.1.length+b.length) 40) <|
 some ((⟨(BO (k.B+1)),d,g,(a.2.1++b),a.2.2.1,c.2.1,i⟩:AN),j,a.2.2.2)
def E6 (N:Nat) (c:AF) (d:By) (o:AN) (i:(List (List Int))×(List Int)×(List AT)) (b:(List (List Int))×(List AV)×(List A0)×(List Int)) (p:(List (List Int))→(List Int)→(List Int)→(List AT)→(List AV)→Option (AN×(List AT)×(List Int))):Nat→Int→(List (List Int))→(List Int)→(List Int)→(List AT)→(List AV)→Option (AN×(List AT)×(List Int))
 |0,_,_,_,_,_,_=>none
 |q+1,g,j,k,l,m,n=>
 cond (decide (g<(↑c.A.length:Int))) (
 (HA N (⟨c,d,(⟨o.B,j,k,b.2.1,b.2.2.1,i.2.1,l⟩:AN),m,b.2.2.2,n⟩:AK) g).bind λa=>
 E6 N c d o i b p q (BO (g+1)) a.1 a.2.1 a.2.2.1 a.2.2.2.1 a.2.2.2.2) (
 p j k l m n)
def IF (N:Nat) (a:AF) (j:AN) (c:By):Option (AN×(List AT)×(List Int)):=
 (KW N j).bind λb=>
 chk (K3 (↑a.A.length:Int) (↑a.A.length:Int) 8) <|
 (G9 N (⟨a,c,b,([]:List AT),(List.replicate ((↑a.A.length:Int):Int).toNat (0:Int)),([]:List AV)⟩:AK)).bind λg=>
 (FY N (⟨a,c,({ b with R:=g}:AN),([]:List AT),(List.replicate ((↑a.A.length:Int):Int).toNat (0:Int)),([]:List AV)⟩:AK)).bind λk=>
 (JP N (⟨a,c,(⟨b.B,k,b.N,b.I,g,b.L,b.O⟩:AN),([]:List AT),(List.replicate ((↑a.A.length:Int):Int).toNat (0:Int)),([]:List AV)⟩:AK)).bind λd=>
 (Fi N (⟨a,c,(⟨b.B,d.1,b.N,b.I,g,d.2.1,b.O⟩:AN),d.2.2,(List.replicate ((↑a.A.length:Int):Int).toNat (0:Int)),([]:List AV)⟩:AK)).bind λi=>
 E6 N a c b d i (E7 N b d i) N 0 i.1 b.N b.O d.2.2 ([]:List AV)
def Ed (N:Nat) (vs:List (Int×D9)) (p:Int) (ks:List Int) (inp:By) (fd:Int→Option (Int×Int×Option E5)) (kj:Option (Int×Int×Option E5)):Nat→Int→Option (Int×Int×Option E5)
 |0,_=>none
 |n+1,i=>cond (decide (i<(ks.length:Int))) ((ix ks i).bind λk=>cond (decide (k=p)) none ((C6 vs k).bind λx=>(IZ N x.inp inp).bind λy=>cond y (fd k) (Ed N vs p ks inp fd kj n (BO (i+1))))) kj
def H1 (N:Nat) (t:E5) (p:Int) (inp:By) (x:D9):Option (Int×Int×Option E5):=
 cond (decide (4096≤(t.vs.length:Int))) (some (0,8,some t)) ((Ib N inp).bind λa=>(IF N t.bas x.st a).bind λy=>cond (C6 t.vs t.cr).isSome none (chk (HJ (x.kids.length+1) 8) (some (t.cr,0,some ⟨t.bas,Mb t.vs p { x with kids:=x.kids++[t.cr]}++[(t.cr,⟨p,a,y.1,[]⟩)],BO (t.cr+1)⟩))))
def C8 (N:Nat) (t:Option E5) (p:Int) (inp:By):Option (Int×Int×Option E5):=t.bind λt=>cond (!(C6 t.vs p).isSome) (some (0,11,some t)) ((C6 t.vs p).bind λx=>cond (decide (x.st.B=16777216)) (some (0,15,some t)) (Ed N t.vs p x.kids inp (λk=>some (k,0,some t)) (H1 N t p inp x) N 0))
def KF (N:Nat) (t:Option E5) (id:Int):Option (AN×Int):=t.bind λt=>cond (!(C6 t.vs id).isSome) (some (st0,11)) ((C6 t.vs id).bind λx=>some (x.st,0))
def Dh (N:Nat):Nat→Int→Int→(List Int)→Option (List Int)
 |0,_,_,_=>none
 |i+1,b,c,a=>
 cond (decide (b<c)) (
 (ix a c).bind λj=>
 (ix a c).bind λd=>
 (ix a b).bind λk=>
 (ix a b).bind λg=>
 (ix a b).bind λl=>
 (ix a b).bind λm=>
 (ix (upd a b d) c).bind λn=>
 (ix (upd a b d) c).bind λo=>
 Dh N i (BO (b+1)) (BO (c-1)) (upd (upd a b d) c g)) (
 some a)
def Ga (N:Nat) (a:(List Int)):Option (List Int):=
 Dh N N 0 (BO ((↑a.length:Int)-1)) a
def DY (N:Nat) (vs:List (Int×D9)):Nat→List Int→Int→Option (List Int)
 |0,_,_=>none
 |n+1,l,id=>cond (C6 vs id).isSome ((C6 vs id).bind λx=>chk (HJ (l.length+1) 8) (DY N vs n (l++[id]) x.par)) (some l)
def Fm (N:Nat) (t:Option E5) (id:Int):Option (List Int):=t.bind λt=>(DY N t.vs N [] id).bind λl=>Ga N l
def ET (N:Nat) (a:Int):Option Int:=
 some a
def ES (N:Nat) (b:List Int) (d:List Int) (c:Int→Option Int):Nat→Int→Int→Option Int
 |0,_,_=>none
 |m+1,g,a=>
 (cond ((decide (a<(↑b.length:Int)))&&(decide (a<(↑d.length:Int)))) ((ix b a).bind λn=>
 (ix b a).bind λi=>
 (ix d a).bind λo=>
 (ix d a).bind λj=>
 some (decide (i=j))) (some false)).bind λk=>
 cond k (
 (ix b a).bind λp=>
 (ix b a).bind λl=>
 ES N b d c m l (BO (a+1))) (
 c g)
def Id (N:Nat) (a:(Option E5)) (b:Int) (c:Int):Option Int:=
 (Fm N a b).bind λd=>
 (Fm N a c).bind λg=>
 ES N d g (ET N) N (-1) 0
def HU (vs:List (Int×D9)):Nat→List Int→Int→Option (List Int)
 |0,_,_=>none
 |n+1,ks,id=>cond ((C6 vs id).isSome&& !(ks.contains id)) ((C6 vs id).bind λx=>HU vs n (ks++[id]) x.par) (some ks)
def GW (N:Nat) (vs:List (Int×D9)) (a:List Int):Nat→List Int→Int→Option (List Int)
 |0,_,_=>none
 |n+1,ks,i=>cond (decide (i<(a.length:Int))) ((ix a i).bind λid=>(HU vs N ks id).bind λb=>GW N vs a n b (BO (i+1))) (some ks)
def KO (N:Nat) (t:Option E5) (a:List Int):Option (Option E5):=t.bind λt=>(GW N t.vs a N (cond (C6 t.vs 0).isSome [0] []) 0).bind λks=>some (some ⟨t.bas,RX t.vs ks,t.cr⟩)
def Hb (N:Nat) (t:Option E5):Option Int:=t.bind λt=>some (max 0 (BO (t.cr-1)))
def I8 (N:Nat) (t:Option E5):Option Int:=t.bind λt=>chk (decide (t.vs.length≤4611686018427387904)) (some (t.vs.length:Int))
def Ii (N:Nat):Option Bool:=
 some true
def HV (N:Nat) (a:(List Int)) (b:(List Int)) (c:Option Bool):Nat→Int→Option Bool
 |0,_=>none
 |j+1,d=>
 cond (decide (d<(↑a.length:Int))) (
 (ix a d).bind λg=>
 (ix b d).bind λi=>
 cond (decide (g≠i)) (
 some false) (
 HV N a b c j (BO (d+1)))) (
 c)
def Km (N:Nat) (a:(List Int)) (b:(List Int)):Option Bool:=
 cond (decide ((↑a.length:Int)≠(↑b.length:Int))) (
 some false) (
 HV N a b (Ii N) N 0)
def Jf (N:Nat) (a:(List Int)) (b:(List Int)):Option Bool:=
 (Km N a b).bind λc=>
 some c
def FI (N:Nat):Option Bool:=
 (KP N).bind λI=>
 (Np N I 0).bind λH=>
 (KG N I H).bind λk=>
 cond ((k).isNone) (
 some false) (
 (C8 N k 0 (⟨([50]:List Int),[],[],[],[]⟩:By)).bind λb=>
 (C8 N b.2.2 0 (⟨[],[],[],[],[]⟩:By)).bind λc=>
 (C8 N c.2.2 b.1 (⟨[],[],[],[],[]⟩:By)).bind λa=>
 (C8 N a.2.2 0 (⟨([50]:List Int),[],[],[],[]⟩:By)).bind λi=>
 (C8 N i.2.2 9 (⟨[],[],[],[],[]⟩:By)).bind λd=>
 (KF N d.2.2 a.1).bind λg=>
 (cond (((((((decide (b.2.1≠0))||(decide (c.2.1≠0)))||(decide (a.2.1≠0)))||(decide (i.2.1≠0)))||(decide (g.2≠0)))||(decide (d.2.1≠11)))||(decide ((↑g.1.G.length:Int)≠1))) (some true) ((ix g.1.G 0).bind λl=>
 some (decide ((↑l.length:Int)≠1)))).bind λm=>
 (cond m (some true) ((ix g.1.G 0).bind λn=>
 (ix n 0).bind λo=>
 some (decide (o≠122)))).bind λp=>
 cond p (
 some false) (
 (Fm N d.2.2 a.1).bind λq=>
 (Id N d.2.2 a.1 c.1).bind λs=>
 (KO N d.2.2 ([c.1]:List Int)).bind λj=>
 (KF N j b.1).bind λt=>
 (cond (decide (b.1=1)) (some (decide (c.1=2))) (some false)).bind λu=>
 (cond u (some (decide (a.1=3))) (some false)).bind λv=>
 (cond v (some (decide (i.1=1))) (some false)).bind λw=>
 (cond w ((Hb N j).bind λx=>
 some (decide (x=3))) (some false)).bind λy=>
 (cond y ((I8 N j).bind λz=>
 some (decide (z=2))) (some false)).bind λA=>
 (cond A ((Jf N q ([0,1,3]:List Int)).bind λB=>
 some B) (some false)).bind λC=>
 (cond C (some (decide (s=0))) (some false)).bind λD=>
 (cond D (some (decide (t.2=11))) (some false)).bind λF=>
 some F))
def G5 (N:Nat):Option Bool:=
 some true
def Em (N:Nat) (a:(List BJ)) (d:Option Bool):Nat→Int→Option Bool
 |0,_=>none
 |j+1,c=>
 cond (decide (c<(↑a.length:Int))) (
 (ix a c).bind λb=>
 (cond (((((decide (8<(↑b.L.T.length:Int)))||(decide (6<(↑b.L.Ab.length:Int))))||(decide (6<(↑b.L.Ac.length:Int))))||(decide (6<(↑b.L.U.length:Int))))||(decide (6<(↑b.L.Ae.length:Int)))) (some true) ((ix a c).bind λg=>
 some (decide (8<(↑g.Bl.length:Int))))).bind λi=>
 cond i (
 some false) (
 Em N a d j (BO (c+1)))) (
 d)
def I9 (N:Nat) (a:AF) (b:(List BJ)):Option Bool:=
 cond (((decide (6<(↑a.A.length:Int)))||(decide (6<(↑a.C.length:Int))))||(decide (16<(↑b.length:Int)))) (
 some false) (
 Em N b (G5 N) N 0)
def H2 (N:Nat) (a:AF) (b:AN):Option (Option E5):=
 (Gg N a).bind λc=>
 (cond (!c) (some true) ((KD N a b).bind λd=>
 some (!d))).bind λg=>
 cond g (
 some (none:Option E5)) (
 (KG N a b).bind λi=>
 some i)
def Ci (N:Nat) (b:(List BJ)) (g:List Int) (i:((Option E5))→Option Bool):Nat→Int→((Option E5))→Option Bool
 |0,_,_=>none
 |n+1,a,d=>
 cond (decide (a<(↑b.length:Int))) (
 (ix g a).bind λj=>
 (ix b a).bind λk=>
 (C8 N d j k.L).bind λc=>
 (cond (decide (c.2.1≠0)) (some true) ((ix g (BO (a+1))).bind λl=>
 some (decide (c.1≠l)))).bind λm=>
 cond m (
 some false) (
 Ci N b g i n (BO (a+1)) c.2.2)) (
 i d)
def En (N:Nat) (b:(List BJ)) (g:Int) (x:Bool) (y:Int) (i:List Int) (c:(Option E5)):Option Bool:=
 (Hb N c).bind λj=>
 (cond (decide (j≠(↑b.length:Int))) (some true) ((I8 N c).bind λk=>
 some (decide (k≠(BO ((↑b.length:Int)+1)))))).bind λl=>
 cond l (
 some false) (
 (Ge N g 0 (↑b.length:Int)).bind λd=>
 (ix i d).bind λm=>
 (C8 N c m (⟨([1,2,3,4,5,6,7,8,9]:List Int),[],[],[],[]⟩:By)).bind λa=>
 (cond x (some (decide (a.2.1=0))) (some false)).bind λn=>
 (cond n (some (decide (a.1=(BO ((↑b.length:Int)+1))))) (some false)).bind λo=>
 (cond o ((Hb N a.2.2).bind λp=>
 some (decide (p=(BO ((↑b.length:Int)+1))))) (some false)).bind λq=>
 (cond q ((Id N a.2.2 a.1 y).bind λs=>
 (ix i d).bind λt=>
 some (decide (s=t))) (some false)).bind λu=>
 (cond u ((Fm N a.2.2 a.1).bind λv=>
 some (decide ((↑v.length:Int)=(BO (d+2))))) (some false)).bind λw=>
 some w)
def D0 (N:Nat) (a:(List BJ)) (b:Int) (d:Bool) (g:Int) (c:List Int) (i:(Option E5)):Option Bool:=
 Ci N a c (En N a b d g c) N 0 i
def Cj (N:Nat) (a:(List BJ)) (g:Int→(List Int)→((Option E5))→Option Bool):Nat→Int→(List Int)→Int→((Option E5))→Option Bool
 |0,_,_,_,_=>none
 |l+1,i,d,c,j=>
 cond (decide (c<(↑a.length:Int))) (
 (ix a c).bind λk=>
 (C8 N j i k.L).bind λb=>
 cond ((decide (b.2.1≠0))||(decide (b.1≠(BO (c+1))))) (
 some false) (
 chk (HJ (d.length+1) 8) <|
 Cj N a g l b.1 (d++([b.1]:List Int)) (BO (c+1)) b.2.2)) (
 g i d j)
def Fo (N:Nat) (b:AF) (c:AN) (a:(List BJ)) (d:Int):Option Bool:=
 (FI N).bind λg=>
 (I9 N b a).bind λj=>
 (H2 N b c).bind λi=>
 cond (((!j)||((i).isNone))||(decide (16777196<c.B))) (
 some g) (
 Cj N a (D0 N a d g) N 0 ([0]:List Int) 0 i)
end Go.Proofs.YtabonambpbofgaaGreat
