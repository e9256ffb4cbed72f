import Derived.Test.YtibidnaedddfdaaGreatDWalk9
namespace Go.Proofs.YtibidnaedddfdaaGreat
set_option linter.all false
open Go.RowKit
open Go.Proofs.Tryz
set_option maxRecDepth 10000
set_option maxHeartbeats 2000000
variable {N:Nat}{S:Nat→Prop}{L:List HP}{h:BB}
def I2 (Y:St S L h) {a:Value}{g:AH}(j:Pt S h AM a g) {b:Value}{p:Int}(k:Pt S h BQ b p) {c:Value}{c2_:Int}(m:Pt S h BQ c c2_) {r:AH}(E:Fj N g p c2_=some r):
 Ct prog 105 #[a,b,c] S h (λv S' h'=>v= .agg #[vI r.B,vI r.A]∧AH.ok r∧St S' (L) h'):=by
 refine BO (l:=[a,b,c]) 18 func105 O ntmps105 O λB=>?_
 rw[Fj] at E
 refine WF.sl (CX F7 O Y λb1 h2 d y=>AS (kp [3,0,1,2] O) (AC (F6 14 mo (by kernel_rfl) O d ?_)))
 have z:=j.mono y
 refine AV O z AH.f_Lo EV O λq6 Z=>AY Bs d.1 O Z AZ O λr8=>AY Bs d.1 O (k.mono y) AZ O λC=>?_
 obtain⟨q,s,E⟩:=bd E
 refine Bz O O O Jc O (λh' o=>Ek (St.all h') r8 C s) λD=>?_
 have F:=D
 refine Jf O O O (AV O z AH.f_Hi D2 O λab G=>AY Bs d.1 O G AZ O λH=>AV O z AH.f_Hi D2 O λac I=>AY Bs d.1 O I AZ O λJ=>AY Bs d.1 O (m.mono y) AZ O λK=>?_)
 obtain⟨t,u,E⟩:=bd E
 refine Bz O O O Jc O (λh' o=>Ek (St.all h') J K u) λM=>?_
 have Q:=M
 refine LE O O O (Jf O O O (DB (cs:=[vI (max 0 q),vI (max 0 (min g.A t))]) Ip O O O (E0 λad w U=>BU (vs:=[vI (max 0 q),vI (max 0 (min g.A t))]) O O O O BY O w .head O λae i V=>AS (kp [3] O) (WF.ret (λaa ww W X=>?_)))))
 have x:=i.drop .head
 cases E
 exact I1 W O X (IH (M2 W X i O mh BY O) Io) O (y.trans (U.trans V)) ⟨O,⟨(HI (iq (n:=0) O) F),(HI (iq (n:=0) O) (ID H Q))⟩,x⟩
def Em (hs:St S L h) {i:Value}{k:(List B9)}(t:Sl S h Ce i k) {d:Value}{c:B9}(u:Rd S h Ce d c) {p:Value}{m:((B9×B9)→Option Int)}(I:Rd S h (B7.fn prog (λx:(B9×B9)=>([.agg #[vI x.1.X,vI x.1.E,vI x.1.M.B,vI x.1.M.A],.agg #[vI x.2.X,vI x.2.E,vI x.2.M.B,vI x.2.M.A]]:List Value)) (λx:(B9×B9)=>B9.ok x.1∧B9.ok x.2) (λy:Int=>vI y) (λy:Int=>AD y)) p m) {r:Int×Bool}(E:BH N k c m=some r):
 Ct prog 124 #[i,d,p] S h (λv S' h'=>v= .tuple #[vI r.1,.bool r.2]∧AD r.1∧St S' (L) h'):=by
 refine BO (l:=[i,d,p]) 49 func124 O ntmps124 O λB=>?_
 rw[BH] at E
 obtain⟨Z,ab,rfl,ac,ad⟩:=I.fn
 refine WF.sl (BM O u (λe=>by cases e) O hs λq5 S6 h7 an Q ae=>A5 2 (A4 O (A4 O (A6 (AS (kp [4,0,2] O) (AE (AA O (BJ O (t.mono' Q) G8 O λao=>AJ O (kp [8,4,0,2] O) (AE (AA O (A4 O (AJ O (kp [10,9,8,4,0,2] O) (AC (BG (λa w=>∃(K:Int),IV B S6 h7 (49,[]) a w [(8,vI (↑k.length:Int)),(4,q5),(0,i),(2,(.func (.func Z) #[] ab)),(9,vI K)] (L) λ_ _=>AD K∧A9 N k c m K=some r) ?_ ?_))))))))))))))
 ·refine Bt (λn1=>λa w=>∃(z:Int) (G:Int),IV B S6 h7 (49,[]) a w [(8,vI (↑k.length:Int)),(4,q5),(0,i),(2,(.func (.func Z) #[] ab)),(9,vI z),(10,vI G)] (L) λ_ _=>AD z∧AD G∧A3 N k c m (A9 N k c m) n1 z G=some r) N ?_ ?_ ?_
  ·intro U V C H
   exact⟨0,(↑k.length:Int),_,_,C.sub (kp [8,4,0,2,9,10] O),H,an,(Cm.refl S6 h7),(iq (n:=0) O),(LW ao),E⟩
  ·rintro U V ⟨_,_,_,_,_,_,_,_,_,_,E⟩
   rw[A3] at E;cases E
  rintro n1 U V ⟨z,G,bm,bn,C,H,s,D,af,ap,E⟩
  refine A8 ?_ C H
  clear C H V U
  rw[A3] at E
  refine AC (AE (AA O (AA O (BE O (AL (kp [17,8,4,0,2,9,10] O) (AW O E (λaq E=>?_) (λaq E=>?_)))))))
  ·refine AQ (BW (AE (AA O (AA O (BD O (GI O Mz O6 O (Hw (j:=1) O O O O (GI O O6 Mz O (AJ O (kp [11,8,4,0,2,9,10] O) (AC (WF.rc (.inr ⟨mo,by kernel_rfl⟩) s (AA O (AA O (AA O ?_))))))))))))))
   obtain⟨bo,ag,E⟩:=bd E
   refine B6 O O (t.mono' (Q.trans D)) G8 ag O λbp ar=>BP Bs s.1 O ar Ll (λe=>by cases e) O λbq au=>BP Bs s.1 O (ae.mono D) Ll (λe=>by cases e) O λbr av=>?_
   obtain⟨rfl,⟨aw,ax,ay,az⟩⟩:=Ce.ex au
   obtain⟨rfl,⟨a0,a1,a2,a3⟩⟩:=Ce.ex av
   obtain⟨bs,ah,E⟩:=bd E
   refine Bz O O O ac O (λh' o=>ad _ h' (λb W=>iY (s.1 b ((Q.trans D).sub b W)) o.siz) (λb W=>(o.same b (s.1 b ((Q.trans D).sub b W))).trans ((Q.trans D).same b W)) [] (St.all h') _ _ ⟨⟨aw,ax,ay,az⟩,⟨a0,a1,a2,a3⟩⟩ ah) λa4=>?_
   have bt:=a4
   refine BE O (Bu (kp [31,11,8,4,0,2,9,10] O) λbu Y ai=>AW O E (λa5 E=>?_) (λa5 E=>?_))
   ·refine CL (.inl O) (AA O (BD O (AJ O (kp [9,8,4,0,2,10] O) (B0 (WF.nil (λU V C H=>?_))))))
    exact⟨(B8 ((B8 (Du .u64 (IntKind.wrap .u64 (B8 (z+G))) 1))+1)),G,_,_,C.sub (kp [8,4,0,2,9,10] O),H,Y,(D.trans ai),(CJ _),ap,E⟩
   refine CL (.inl O) (AA O (AJ O (kp [10,8,4,0,2,9] O) (B0 (WF.nil (λU V C H=>?_)))))
   exact⟨z,(B8 (Du .u64 (IntKind.wrap .u64 (B8 (z+G))) 1)),_,_,C.sub (kp [8,4,0,2,9,10] O),H,Y,(D.trans ai),af,(CJ _),E⟩
  refine WF.exit O (λU V C H=>?_)
  exact⟨z,_,_,C.sub (kp [8,4,0,2,9] O),H,s,D,af,E⟩
 rintro U V ⟨K,bv,bw,C,H,F,J,a6,E⟩
 refine A8 ?_ C H
 clear C H V U
 rw[A9] at E
 refine AC (WF.rc (.inr ⟨mo,by kernel_rfl⟩) F (AA O (AA O (AA O (BE O (AA O ?_))))))
 obtain⟨a7,g,E⟩:=bd E
 refine AO 9 48 (.bool a7) ?_ ?_
 ·cases aj:(decide (K<(↑k.length:Int)))
  ·have g:=GY aj g
   cases g
   exact AX O O
  have g:=GX aj g
  refine AB O (AA O (AB O (AA O (AB O (AA O (AB O ?_))))))
  obtain⟨bx,ak,g⟩:=bd g
  refine B6 O O (t.mono' (Q.trans J)) G8 ak O λbz a8=>AB O (BP Bs F.1 O a8 Ll (λe=>by cases e) O λb0 a9=>AB O (BP Bs F.1 O (ae.mono J) Ll (λe=>by cases e) O λb1 ba=>AB O ?_))
  obtain⟨rfl,⟨bb,bc,be,bf⟩⟩:=Ce.ex a9
  obtain⟨rfl,⟨bg,bh,bi,bj⟩⟩:=Ce.ex ba
  obtain⟨b2,al,g⟩:=bd g
  refine Bz O O O ac O (λh' o=>ad _ h' (λb W=>iY (F.1 b ((Q.trans J).sub b W)) o.siz) (λb W=>(o.same b (F.1 b ((Q.trans J).sub b W))).trans ((Q.trans J).same b W)) [] (St.all h') _ _ ⟨⟨bb,bc,be,bf⟩,⟨bg,bh,bi,bj⟩⟩ al) λbk=>?_
  have b3:=bk
  refine AB O (CR O (AI O ?_))
  cases g
  exact AN O
 refine A4 O (A4 O (Bu (kp [7,6] O) λb4 am bl=>WF.ret (λU V C H=>?_)))
 cases E
 exact I1 C O H (IH (LV C (v:=_) O) (IH (LV C (v:=_) O) Io)) O (Q.trans (J.trans bl)) ⟨O,a6,am⟩
def Q4 {g:Value}{s:(List B9)}(hs:St S (OS Ce 93 g s::L) h) {a:Int}(k:AD a) {c:Int}(m:AD c) {j:Value}{C:AH}(w:Rd S h AM j C) {r:(List B9)}(E:J3 N s a c C=some r):
 Ct prog 67 #[g,vI a,vI c,j] S h (λv S' h'=>St S' (OS Ce 93 v r::L) h'):=by
 refine BO (l:=[g,vI a,vI c,j]) 46 func67 O ntmps67 O λB=>?_
 rw[J3] at E
 refine WF.sl (BM O w (λe=>by cases e) O hs λq1 S2 h3 t e5 k6=>A5 1 (A4 O (A6 (AS (kp [7,0,1,2] O) (AC (AE (AV O k6 AH.f_Hi D2 O λq7 k8=>AY BX t.1 O k8 AZ O λr9=>HC O (AL (kp [13,7,0,1,2] O) (AW O E (λam E=>?_) (λam E=>?_))))))))))
 ·refine AE (AA O (AJ O (kp [8] O) (WF.ret (λaa ww D F=>?_))))
  cases E
  exact EU D F O O e5 t
 refine AQ (AC (WF.rc (.inl O) t (AA O (AA O (AA O (DB (cs:=[vI a,vI c,vI 0,vI 0]) Yu O O O ?_))))))
 have G:Rd S2 h3 (B7.fn prog (λx:(B9×B9)=>([.agg #[vI x.1.X,vI x.1.E,vI x.1.M.B,vI x.1.M.A],.agg #[vI x.2.X,vI x.2.E,vI x.2.M.B,vI x.2.M.A]]:List Value)) (λx:(B9×B9)=>B9.ok x.1∧B9.ok x.2) (λy:Int=>vI y) (λy:Int=>AD y)) (.func (.func 46) #[] #[]) (λx=>Eo N x.1 x.2):=LB 46 #[] Y6 λS' h' s' e' L hs x y h1 h2=>(Lv hs (Ce.mk (x:=x.1) h1.1) (Ce.mk (x:=x.2) h1.2) h2).mono λ_ _ _ _ p=>p
 obtain⟨an,H,E⟩:=bd E
 refine Bz O O O aD O (λh' o=>Em (St.all h') ((t.oslAll mh).mono (λb I=>iY I o.siz) (λb I=>o.same b I)) (Ce.mk (x:=(⟨a,c,(⟨0,0⟩:AH)⟩:B9)) ⟨k,m,(iq (n:=0) O),(iq (n:=0) O)⟩) (G.mono (o.all t.1)) H) λao=>?_
 have ap:=ao
 refine AA O (De O (De O (A4 O (A4 O (Bu (kp [10,9,7,0,1,2] O) λbf d z=>AC (AE (AA O (AL (kp [23,9,7,0,1,2] O) (AW O E (λaq E=>?_) (λaq E=>?_))))))))))
 ·refine AC (F6 12 mo (by kernel_rfl) O d (AA O (AA O (AA O (AA O ?_)))))
  obtain⟨bg,J,E⟩:=bd E
  refine DN d mh O O G8 J O λbh K=>NG O K MS O λbi Q=>?_
  obtain⟨bj,U,E⟩:=bd E
  have ar:=d.epAt mh U B9.f_Vol Q
  refine BP Bs (λ_ x=>x) O ar BY (λe=>by cases e) O λbk au=>BP Bs d.1 O (k6.mono z) BY (λe=>by cases e) O λbl av=>?_
  obtain⟨aw,V,E⟩:=bd E
  refine Bz O O O Ta O (λh' o=>Kz (St.all h') (au.mono (o.all d.1)) (av.mono (o.all d.1)) V) λax=>?_
  obtain⟨ay,az⟩:=ax
  obtain⟨a0,W,E⟩:=bd E
  refine Bz O O O TZ O (λh' o=>I8 (St.all h') (AM.mk (x:=aw) ⟨ay,az⟩) W) λa1=>?_
  obtain⟨a2,a3⟩:=a1
  obtain⟨bm,Y,E⟩:=bd E
  refine DN d mh O O G8 Y O λbn Z=>NG O Z MS O λbo ab=>E0 λbp ac a4=>?_
  obtain⟨a5,ad,E⟩:=bd E
  refine IB (r:=Ce) (l:=s) (i:=an.1) (x:=a5) O O (AM.mk (x:=a0) ⟨a2,a3⟩) ab ad B9.u_Vol BY (λe=>by cases e) ac .head λbq ae a6=>AS (kp [0] O) (AE (AA O (AJ O (kp [8] O) (WF.ret (λaa ww D F=>?_)))))
  cases E
  exact EU D F O O (e5.trans (z.trans (a4.trans a6))) ae
 refine AQ (WF.sl (A5 5 (AA O (AA O (AA O (AA O (BP BX d.1 O (k6.mono z) BY (λe=>by cases e) O λbr a7=>A6 ?_)))))))
 obtain⟨u,af,E⟩:=bd E
 refine Ea O O O TZ O d (I8 (St.all _) (a7.mono ⟨λb I=>d.1 b I,λ_ _=>rfl,jB _⟩) af) λbs bt bu ag a8 bv p=>?_
 obtain⟨rfl,⟨a9,ba⟩,be⟩:=p
 refine A5 1 (DB (cs:=[vI a,vI c,vI u.B,vI u.A]) Yu O O O (A6 (JF (cs:=[vI a,vI c,vI u.B,vI u.A]) SV O O O O O O O ag λbw bx ah bb=>?_)))
 have ai:=ah.bxos (r:=Ce) (l:=([(⟨a,c,u⟩:B9)]:List B9)) .head ⟨_,_,O,⟨O,⟨k,m,a9,ba⟩⟩,O⟩ (by simp [maxLen])
 have aj:=ai.sel [1,0] 0 O
 obtain⟨bz,ak,E⟩:=bd E
 refine GO O O O aC O (NP aj ap ak) λb0 b1 b2 bc p=>?_
 have al:=p
 refine A5 1 (A4 O (A6 (AS (kp [8] O) (WF.ret (λaa ww D F=>?_)))))
 cases E
 exact EU D F O O (e5.trans (z.trans (a8.trans (bb.trans bc)))) al
def J0 {c:Nat}{p0_w:BS}{n:Value}{s:Value}{t:Value}{u:Value}{w:Value}{x:Value}{y:Value}{z:Value}{g:Value}{A:Value}{j:Value}{k:Value}(hs:St S (Bx c 106 [.string p0_w.b.J,n,vI p0_w.b.W,s,t,u,w,x,y,z,vI p0_w.b.Z,vI p0_w.h.K,g,A,j,k]::OS AM 51 g p0_w.h.M::OS Ce 93 A p0_w.h.S::OS BK 97 j p0_w.h.F::OS AM 51 k p0_w.peaks::L) h) (ah:p0_w.b.J.size≤maxLen) (ai:Sl S h B7.str n p0_w.b.Ar) (aj:AD p0_w.b.W) (ak:Sl S h Cb s p0_w.b.D) (al:Sl S h CI t p0_w.b.F) (am:Sl S h Fi u p0_w.b.Ac) (an:Sl S h Ez w p0_w.b.Am) (ao:Sl S h GN x p0_w.b.An) (ap:Sl S h Dr y p0_w.b.Aq) (aq:Sl S h BQ z p0_w.b.Ap) (ag:AD p0_w.b.Z) (U:AD p0_w.h.K) {C:Int}(Y:AD C) {d:Int}(I:AD d) {H:Value}{V:AH}(ad:Rd S h AM H V) {r:(List B9)}(E:GU N p0_w C d V=some r):
 Ct prog 107 #[vP c 0,vI C,vI d,H] S h (λv S' h'=>∃X:Value,v= .tuple #[]∧St S' (Bx c 106 [.string p0_w.b.J,n,vI p0_w.b.W,s,t,u,w,x,y,z,vI p0_w.b.Z,vI p0_w.h.K,g,X,j,k]::OS AM 51 g p0_w.h.M::OS Ce 93 X r::OS BK 97 j p0_w.h.F::OS AM 51 k p0_w.peaks::L) h'):=by
 refine BO (l:=[vP c 0,vI C,vI d,H]) 30 func107 O ntmps107 O λB=>?_
 rw[GU] at E
 refine WF.sl (BM O ad (λe=>by cases e) O hs λq1 S2 h3 Q e5 k6=>AS (kp [7,0,1,2] O) (AE (AA O (Cq O (AL (kp [9,7,0,1,2] O) (AW O E (λc7 E=>?_) (λc7 E=>?_)))))))
 ·refine aW (m:=[(7,q1),(0,vP c 0),(1,vI C),(2,vI d)]) 16 [0] (λi v hh=>match i with|0=>v=vP c 0|1=>v=vP c 0|2=>v=vP c 0|3=>v=vP c 11|4=>v=vP c 13|5=>v=A|6=>v=vP c 0|7=>v=vP c 0|8=>v=vP c 11|9=>v=vP c 11|10=>v=vI p0_w.h.K∧AD p0_w.h.K|11=>v=vI (B8 (p0_w.h.K+1))∧AD (B8 (p0_w.h.K+1))|12=>v=vI d∧AD d|13=>v=vI (B8 ((B8 (p0_w.h.K+1))+d))∧AD (B8 ((B8 (p0_w.h.K+1))+d))|14=>v=vI C∧AD C|15=>Rd S2 hh AM v V|_=>False) [[],[],[(1,11)],[(2,12)],[(3,13)],[(4,14)],[],[(6,16)],[(7,17)],[(8,18)],[(9,19)],[(10,20)],[],[(11,21),(12,22)],[],[]] [(0,10),(5,15),(13,23),(14,24),(15,25)] mo (by kernel_rfl) [7,0,1,2] O (by kernel_rfl) (by kernel_rfl) (by kernel_rfl) (kp [7,0,1,2] O) (λi v h1 h2 o1 o2 G=>?_) ?_ ?_ ?_
  ·match i,G with
    |0,G|1,G|2,G|3,G|4,G|5,G|6,G|7,G|8,G|9,G|10,G|11,G|12,G|13,G|14,G=>exact G
    |15,G=>exact Rd.mono G (o2.ext λb hb=>iY (Q.1 b hb) o1.siz)
    |_+16,G=>exact G.elim
  ·refine Rg.cons [] (by kernel_rfl) O O (by kernel_rfl) ?_ ?_
   ·intro mq hh o
    intro a hf
    exact⟨vP c 0,MJ hf O,O⟩
   exact trivial
  ·refine DU.cons O (λ_ _ _=>A5 1 (AA O (BF O))) (DU.cons O (λ_ _ _=>A5 1 (AA O (BF O))) (DU.cons O (λ_ _ _ _ a0=>by cases a0;exact A5 1 (FV O O (BF O))) (DU.cons O (λ_ _ _ _ a1=>by cases a1;exact A5 1 (AF Fd O (BF O))) (DU.cons O (λ_ _ _ _ a2=>by cases a2;exact A5 1 (AF MU O (BF O))) (DU.cons O (λ_ _ o _ a3=>by cases a3;exact A5 1 (AT BX (o.st Q) O mh O QJ O (BF O))) (DU.cons O (λ_ _ _=>A5 1 (AA O (BF O))) (DU.cons O (λ_ _ _ _ a4=>by cases a4;exact A5 1 (FV O O (BF O))) (DU.cons O (λ_ _ _ _ a5=>by cases a5;exact A5 1 (AF Fd O (BF O))) (DU.cons O (λ_ _ _ _ a6=>by cases a6;exact A5 1 (AF KT O (BF O))) (DU.cons O (λ_ _ o _ a7=>by cases a7;exact A5 1 (AT BX (o.st Q) O mh O AZ O (BF ⟨O,U⟩))) (DU.cons O (λ_ _ _ _ a8=>by obtain⟨rfl,bn⟩:=a8;exact A5 1 (BD O (BF ⟨O,(CJ _)⟩))) ?_)))))))))))
   exact DU.cons O (λ_ _ _=>A5 1 (AA O (BF ⟨O,I⟩))) (DU.cons O (λ_ _ _=>by intro bo a9 bp ba;obtain ⟨rfl,bq⟩:=a9;obtain ⟨rfl,br⟩:=ba;exact A5 1 (BD O (BF ⟨O,(CJ _)⟩))) (DU.cons O (λ_ _ _=>A5 1 (AA O (BF ⟨O,Y⟩))) (DU.cons O (λ_ _ o=>A5 1 (BP BX (o.st Q).1 O (k6.mono (o.ext Q.1)) BY (λe=>by cases e) O λbs bb=>BF bb)) trivial)))
  intro bc ar bt be bu bf bv bg bw bh bi ab
  have au:=SN.st Q ar
  cases be
  cases bf
  obtain⟨rfl,bj⟩:=bg
  obtain⟨rfl,bk⟩:=bh
  have ab:=Rd.mono (S':=(SN S2 h3 bc)) ab ⟨λb hb=> .inl hb,λ_ _=>rfl,jB _⟩
  have ab:Rd _ _ AM bi V:=ab
  have av:=au.pick (.tail (.tail .head))
  obtain⟨aw,ax,E⟩:=bd E
  refine GO O O O eC O (Q4 av bj bk ab ax) λbx bz b0 bl p=>?_
  have ae:=p
  refine A5 3 (FV O O (AF Fd O (AF MU O (A6 ?_))))
  obtain⟨af,ac,rfl,b1⟩:=ae.oslen mh
  refine Jg (vs:=[(.slice af aw.length ac)]) (cs':=[.string p0_w.b.J,n,vI p0_w.b.W,s,t,u,w,x,y,z,vI p0_w.b.Z,vI p0_w.h.K,g,(.slice af aw.length ac),j,k]) O O O O QJ O ae (.tail .head) O O λb2 ay bm=>AS Kv (WF.nil (λaa ww hf hw=>?_))
  have az:=ay.sel [1,1,0,0,0] 0 O
  cases E
  exact I1 hf O hw Io O (e5.trans ((SN.ext Q.1 ar).trans (bl.trans bm))) ⟨_,O,az⟩
 refine AQ (WF.nil (λaa ww hf hw=>?_))
 cases E
 exact I1 hf O hw Io O e5 ⟨_,O,Q⟩
def Mh {c:Nat}{p0_w:BS}{U:Value}{X:Value}{Y:Value}{ab:Value}{ac:Value}{ad:Value}{ae:Value}{af:Value}{u:Value}{ar:Value}{j:Value}{d:Value}(hs:St S (Bx c 106 [.string p0_w.b.J,U,vI p0_w.b.W,X,Y,ab,ac,ad,ae,af,vI p0_w.b.Z,vI p0_w.h.K,u,ar,j,d]::OS AM 51 u p0_w.h.M::OS Ce 93 ar p0_w.h.S::OS BK 97 j p0_w.h.F::OS AM 51 d p0_w.peaks::L) h) (a7:p0_w.b.J.size≤maxLen) (a8:Sl S h B7.str U p0_w.b.Ar) (a9:AD p0_w.b.W) (ax:Sl S h Cb X p0_w.b.D) (ba:Sl S h CI Y p0_w.b.F) (bb:Sl S h Fi ab p0_w.b.Ac) (bc:Sl S h Ez ac p0_w.b.Am) (be:Sl S h GN ad p0_w.b.An) (bf:Sl S h Dr ae p0_w.b.Aq) (bg:Sl S h BQ af p0_w.b.Ap) (a2:AD p0_w.b.Z) (a3:AD p0_w.h.K) {t:Int}(bk:AD t) {k:Value}{ag:(List A0)}(bq:Sl S h C9 k ag) {r:AH×(List AH)×(List B9)}(E:Gx N p0_w t ag=some r):
 Ct prog 52 #[vP c 0,vI t,k] S h (λv S' h'=>∃b0 b2:Value,v= .agg #[vI r.1.B,vI r.1.A]∧AH.ok r.1∧St S' (Bx c 106 [.string p0_w.b.J,U,vI p0_w.b.W,X,Y,ab,ac,ad,ae,af,vI p0_w.b.Z,vI p0_w.h.K,b0,b2,j,d]::OS AM 51 b0 r.2.1::OS Ce 93 b2 r.2.2::OS BK 97 j p0_w.h.F::OS AM 51 d p0_w.peaks::L) h'):=by
 refine BO (l:=[vP c 0,vI t,k]) 128 func52 O ntmps52 O λB=>?_
 rw[Gx] at E
 refine WF.sl (CX F7 O hs λb1 h2 ay e4=>AS (kp [6,0,1,2] O) (AC ?_))
 obtain⟨G,h8,E⟩:=bd E
 obtain⟨mi,cy,E⟩:=bd E
 obtain⟨ak,cz,E⟩:=bd E
 refine UW (m:=[(6,vP b1 0),(0,vP c 0),(1,vI t),(2,k)]) 17 [18] [8,12] [9,10,11,13,14] [15,16] (λi v hh=>match i with|0=>v=vP c 0|1=>v=vP c 0|2=>v=vP c 0|3=>v=vP c 3|4=>Sl S hh Cb v p0_w.b.D|5=>v=vI t∧AD t|6=>Pt S hh Cb v G|7=>Rd S hh Cb v G|8=>v=vP c 0|9=>v=vP c 0|10=>v=vP c 15|11=>v=d|12=>v=vI t∧AD t|13=>EP d (t.toNat*(AM).sz+0) v|14=>Rd S hh AM v ak|15=>Qj h2 57 [.string ByteArray.empty,vI 0,vI 0,vI 0,vN,vN,vI 0,vI 0,vI 0,vI 0,vI 0,vN] v hh|16=>Qj h2 51 [vI 0,vI 0] v hh|_=>False) [[],[(0,20)],[(1,21)],[(2,22)],[(3,23)],[],[(4,24),(5,25)],[(6,26)],[],[(8,28)],[(9,29)],[(10,30)],[],[(11,31),(12,32)],[(13,33)],[],[],[],[]] [(7,27),(8,28),(12,32),(15,7),(16,8)] mo (by kernel_rfl) [6,0,1,2] O (by kernel_rfl) (by kernel_rfl) (by kernel_rfl) O O (kp [6,0,1,2] O) (λi v h1 h2 o1 o2 g=>?_) (by kernel_rfl) (Ma (T:=57) O (Ma (T:=51) O RP)) ?_ ?_ ?_
 ·match i,g with
   |0,g|1,g|2,g|3,g|5,g|8,g|9,g|10,g|11,g|12,g|13,g=>exact g
   |4,g=>exact Sl.mono' g (o2.ext λb hb=>iY (ay.1 b hb) o1.siz)
   |6,g=>exact N0.mono g (o2.ext λb hb=>iY (ay.1 b hb) o1.siz)
   |7,g|14,g=>exact Rd.mono g (o2.ext λb hb=>iY (ay.1 b hb) o1.siz)
   |15,g|16,g=>exact g.mono o2
   |_+17,g=>exact g.elim
 ·refine Ku.cons [] (by kernel_rfl) O O (by kernel_rfl) ?_ ?_
  ·intro mq hh o
   intro a hf
   exact⟨vP c 0,MJ hf O,O⟩
  refine Ku.cons [] (by kernel_rfl) O O (by kernel_rfl) ?_ ?_
  ·intro mq hh o
   intro a hf
   exact⟨vI t,MJ hf O,⟨O,bk⟩⟩
  exact trivial
 ·refine By.cons O O O (λ_ _ _=>A5 1 (AA O (BF O))) (By.cons O O O (λ_ _ _ _ h9=>by cases h9;exact A5 1 (FV O O (BF O))) (By.cons O O O (λ_ _ _ _ ia=>by cases ia;exact A5 1 (AF HK O (BF O))) (By.cons O O O (λ_ _ _ _ ib=>by cases ib;exact A5 1 (AF En O (BF O))) (By.cons O O O (λ_ _ o _ ic=>by cases ic;exact A5 1 (AT BX (o.st ay) O (mt mh) O HD O (BF (ax.mono' (e4.trans (o.ext ay.1)))))) (By.cons O O O (λ_ _ _=>A5 1 (AA O (BF ⟨O,bk⟩))) (By.cons O O O (λ_ _ _=>by intro ie dj mj ig;have dj:Sl _ _ Cb ie p0_w.b.D:=dj;obtain ⟨rfl,ml⟩:=ig;exact A5 1 (B6 O O dj Ga h8 O λmm ih=>BF ih)) (By.cons O O O (λ_ _ o ii dk=>by have dk:Pt _ _ Cb ii G:=dk;exact A5 1 (BP BX (o.st ay).1 O dk KO (λe=>by cases e) O λmn ij=>BF ij)) (By.cons O O O (λ_ _ _=>A5 1 (AA O (BF O))) (By.cons O O O (λ_ _ _ _ ik=>by cases ik;exact A5 1 (FV O O (BF O))) (By.cons O O O (λ_ _ _ _ il=>by cases il;exact A5 1 (AF HJ O (BF O))) (By.cons O O O (λ_ _ o _ im=>by cases im;exact A5 1 (AT BX (o.st ay) O (mt mh) O IK O (BF O))) ?_)))))))))))
  refine By.cons O O O (λ_ _ _=>A5 1 (AA O (BF ⟨O,bk⟩))) (By.cons O O O (λ_ _ o=>by intro mp io mr ip;cases io;obtain ⟨rfl,ms⟩:=ip;exact A5 1 (DN (o.st ay) (mt (mt (mt (mt (mt mh))))) O O Gs cy O λmu ey=>BF ey)) ?_)
  refine By.cons O O O ?_ ?_
  ·intro mq hh o
   intro mv ir
   have Q:=o.st ay
   refine A5 1 ?_
   have it:=Q.epAt (mt (mt (mt (mt (mt mh))))) cz Fm.id ir
   exact BP BX (λ_ x=>x) O it BY (λe=>by cases e) O λmw iu=>BF iu
  exact By.al O QG O O (By.al O F7 O O (By.skip (by kernel_rfl) (By.skip (by kernel_rfl) (trivial))))
 intro jt mx ct iv dl my iw mz iy m0 iz m1 i0 ez
 obtain⟨br,rfl,i1,i2,i3⟩:=iz
 obtain⟨a6,rfl,i4,i5,i6⟩:=i0
 have e0:=(QE.cons (QE.cons (QE.nil ay ct) i1 i2 i3 jL) i4 i5 i6 (dN (ez.at_ (s:=8) (s':=7) (by kernel_rfl) O O) jL)).st
 have dl:Rd _ _ Cb iv G:=dl
 cases iw
 obtain⟨rfl,m2⟩:=iy
 obtain⟨cu,cv,cw,rfl,m3,m4,m5,cx,i7,i8,m6,m7,i9,ja,m8,jb⟩:=Cb.ex dl
 refine IR (vs:=[.string G.J,vI G.C,vI G.Aj,vI G.Ag,cu,cv,vI G.N,vI G.H,vI G.Ao,vI G.V,vI G.Ax,cw]) (cs':=[.string G.J,vI G.C,vI G.Aj,vI G.Ag,cu,cv,vI G.N,vI G.H,vI G.Ao,vI G.V,vI G.Ax,cw]) O O O (AG O (AG O (AG O (AG O (AG i7.one (AG i8.one (AG O (AG O (AG O (AG O (AG O (AG jb.one GJ)))))))))))) KO O e0 (.tail .head) O O λm9 av b3=>XQ ⟨λi v hh=>match i with|9=>v=vP c 0|10=>v=vP c 15|11=>v=d|13=>EP d (t.toNat*(AM).sz+0) v|14=>Rd S hh AM v ak|_=>False,[[],[],[],[],[],[],[],[],[],[],[(9,29)],[(10,30)],[],[(11,31)],[(13,33)],[],[],[],[]],[(14,34)],_,[8,7,32,28,27,6,0,1,2],O,by kernel_rfl,by kernel_rfl,by kernel_rfl,by kernel_rfl,O,λi hi v g=>?_,λi v h1 h2 o1 o2 g=>?_,?_,?_⟩
 ·rcases iZ.1 hi with rfl|hi
  ·exact g
  rcases iZ.1 hi with rfl|hi
  ·exact g
  rcases iZ.1 hi with rfl|hi
  ·exact g
  rcases iZ.1 hi with rfl|hi
  ·exact g
  rcases iZ.1 hi with rfl|hi
  ·exact Rd.mono g b3
  cases hi
 ·match i,g with
   |0,g|1,g|2,g|3,g|4,g|5,g|6,g|7,g|8,g|12,g=>exact g.elim
   |9,g|10,g|11,g|13,g=>exact g
   |14,g=>exact Rd.mono g (o2.ext λb hb=>iY (av.1 b hb) o1.siz)
   |_+15,g=>exact g.elim
 ·refine By.skip (by kernel_rfl) (By.skip (by kernel_rfl) (By.skip (by kernel_rfl) (By.skip (by kernel_rfl) (By.skip (by kernel_rfl) (By.skip (by kernel_rfl) (By.skip (by kernel_rfl) (By.skip (by kernel_rfl) (By.skip (by kernel_rfl) (By.cons O O O ?_ ?_)))))))))
  ·intro mq hh o
   have Q:=o.st av
   exact A5 1 (FV O O (BF O))
  refine By.cons O O O (λ_ _ _ _ e1=>by cases e1;exact A5 1 (AF HJ O (BF O))) (By.cons O O O (λ_ _ o _ e2=>by cases e2;exact A5 1 (AT BX (o.st av) O (mt (mt (mt mh))) O IK O (BF O))) ?_)
  refine By.skip (by kernel_rfl) (By.cons O O O ?_ ?_)
  ·intro mq hh o
   intro ju e3
   have Q:=o.st av
   cases e3
   exact A5 1 (DN Q (mt (mt (mt (mt (mt (mt (mt mh))))))) O O Gs cy O λjv dm=>BF dm)
  refine By.cons O O O ?_ ?_
  ·intro mq hh o
   intro jw e5
   have Q:=o.st av
   refine A5 1 ?_
   have e6:=Q.epAt (mt (mt (mt (mt (mt (mt (mt mh))))))) cz Fm.id e5
   exact BP BX (λ_ x=>x) O e6 BY (λe=>by cases e) O λjx e7=>BF e7
  exact By.skip (by kernel_rfl) (By.skip (by kernel_rfl) (By.skip (by kernel_rfl) (By.skip (by kernel_rfl) (trivial))))
 intro jy b4 e8 b9
 have dn:=b4.st av
 have b9:Rd _ _ AM e8 ak:=b9
 obtain⟨rfl,⟨ca,cb⟩⟩:=AM.ex b9
 refine BU (vs:=[vI ak.B,vI ak.A]) O O O O BY O dn .head O λjz dp cc=>AS (kp [8,7,6,0,1,2] O) (WF.sl (CX Xb O dp λaz j0 dq cd=>CX Xb O dq λa0 j1 dr ce=>BU (vs:=[vI 0]) O O O O AZ O dr (.tail .head) O λj2 ds cf=>BU (vs:=[vI 0]) O O O O AZ O ds .head O λcg dt ch=>AS (kp [10,9,8,7,6,0,1,2] O) (AE (KD O O O (AJ O (kp [11,10,9,8,7,6,0,1,2] O) (AC (AE (AA O ?_))))))))
 have c0:=bq.mono' (e4.trans ((ct.ext ay.1).trans (b3.trans ((b4.ext av.1).trans (cc.trans (cd.trans (ce.trans (cf.trans ch))))))))
 refine BJ O c0 Ve O λj3=>AA O (AL (kp [38,37,36,11,10,9,8,7,6,0,1] O) (BG (λa w=>∃(bs:Int) (bt:Int) (ci:Value) (b5:List B9),IV B S cg (128,[]) a w [(11,.func (.func 105) #[] #[vP a6 0,vP az 0,vP a0 0]),(7,vP br 0),(6,vP b1 0),(0,vP c 0),(1,vI t)] (OS Ce 93 ci b5::Bx a0 3 [vI bs]::Bx az 3 [vI bt]::Bx a6 51 [vI ak.B,vI ak.A]::Bx br 57 [.string G.J,vI G.C,vI G.Aj,vI G.Ag,cu,cv,vI G.N,vI G.H,vI G.Ao,vI G.V,vI G.Ax,cw]::Bx b1 51 [vI 0,vI 0]::Bx c 106 [.string p0_w.b.J,U,vI p0_w.b.W,X,Y,ab,ac,ad,ae,af,vI p0_w.b.Z,vI p0_w.h.K,u,ci,j,d]::OS AM 51 u p0_w.h.M::OS BK 97 j p0_w.h.F::OS AM 51 d p0_w.peaks::L) λ_ _=>AD bs∧AD bt∧Db N p0_w t G ak bs bt b5=some r) ?_ ?_))
 ·refine Bt (λn1=>λa w=>∃(bh:Int) (bi:Int) (bj:Int) (b6:Value) (bu:List B9),IV B S cg (128,[]) a w [(37,vI (↑ag.length:Int)),(36,k),(11,.func (.func 105) #[] #[vP a6 0,vP az 0,vP a0 0]),(10,vP a0 0),(9,vP az 0),(8,vP a6 0),(7,vP br 0),(6,vP b1 0),(0,vP c 0),(1,vI t),(38,vI bh)] (OS Ce 93 b6 bu::Bx a0 3 [vI bi]::Bx az 3 [vI bj]::Bx a6 51 [vI ak.B,vI ak.A]::Bx br 57 [.string G.J,vI G.C,vI G.Aj,vI G.Ag,cu,cv,vI G.N,vI G.H,vI G.Ao,vI G.V,vI G.Ax,cw]::Bx b1 51 [vI 0,vI 0]::Bx c 106 [.string p0_w.b.J,U,vI p0_w.b.W,X,Y,ab,ac,ad,ae,af,vI p0_w.b.Z,vI p0_w.h.K,u,b6,j,d]::OS AM 51 u p0_w.h.M::OS BK 97 j p0_w.h.F::OS AM 51 d p0_w.peaks::L) λ_ _=>AD bh∧AD bi∧AD bj∧Da N p0_w ag ak (Db N p0_w t G ak) n1 bh bi bj bu=some r) N ?_ ?_ ?_
  ·intro aa ww hf hw
   have du:=dt.sel [7,0,0,0,0,0,0,0,0,0] 0 O
   exact⟨0,0,0,ar,p0_w.h.S,_,_,hf.sub (kp [37,36,11,10,9,8,7,6,0,1,38] O),hw,du,(Cm.refl S cg),(iq (n:=0) O),(iq (n:=0) O),(iq (n:=0) O),E⟩
  ·rintro aa ww ⟨_,_,_,_,_,_,_,_,_,_,_,_,_,_,E⟩
   rw[Da] at E;cases E
  rintro n1 aa ww ⟨bh,bi,bj,b6,bu,a1,j4,hf,hw,bx,b7,j5,cj,ck,E⟩
  refine A8 ?_ hf hw
  clear hf hw ww aa
  rw[Da] at E
  refine AE (BE O (AL (kp [39,37,36,11,10,9,8,7,6,0,1,38] O) (AC (AW O E (λe9 E=>?_) (λe9 E=>?_)))))
  ·refine AQ (AC (BW (WF.sl (A5 2 ?_))))
   obtain⟨a4,dv,E⟩:=bd E
   refine B6 O O (c0.mono' b7) Ve dv O λj6 fa=>BP BX bx.1 O fa VP (λe=>by cases e) O λj7 fb=>A6 (CX ZC O bx λcl j8 dw cm=>?_)
   obtain⟨j9,rfl,fc,fd,c1,cn⟩:=C9.ex (fb.mono cm)
   obtain⟨dx,dy,rfl,jc,jd⟩:=cn.fn
   refine BU (vs:=[vI a4.to_,vI a4.delay,vI a4.slack,(.func (.func dx) #[] dy)]) O O O O VP O dw .head O λaw z b8=>AS (kp [13,37,36,11,10,9,8,7,6,0,1,38] O) (AC ?_)
   obtain⟨ao,dz,E⟩:=bd E
   obtain⟨ap,d0,E⟩:=bd E
   obtain⟨I,d1,E⟩:=bd E
   refine aV (m:=[(13,vP cl 0),(37,vI (↑ag.length:Int)),(36,k),(11,.func (.func 105) #[] #[vP a6 0,vP az 0,vP a0 0]),(10,vP a0 0),(9,vP az 0),(8,vP a6 0),(7,vP br 0),(6,vP b1 0),(0,vP c 0),(1,vI t),(38,vI bh)]) [15,16,17] [] [12,13,14] (λi v hh=>match i with|0=>v=vP cl 3|1=>Rd a1 hh (B7.fn prog (λx:Int=>([vI x]:List Value)) (λx:Int=>AD x) (λy:AH=> .agg #[vI y.B,vI y.A]) (λy:AH=>AH.ok y)) v a4.asks|2=>v=vP a6 0|3=>v=vI ak.B∧AD ak.B|4=>v= .agg #[vI ao.B,vI ao.A]∧AD ao.B∧AD ao.A|5=>v=vP cl 3|6=>Rd a1 hh (B7.fn prog (λx:Int=>([vI x]:List Value)) (λx:Int=>AD x) (λy:AH=> .agg #[vI y.B,vI y.A]) (λy:AH=>AH.ok y)) v a4.asks|7=>v=vP a6 1|8=>v=vI ak.A∧AD ak.A|9=>v= .agg #[vI ap.B,vI ap.A]∧AD ap.B∧AD ap.A|10=>v= .func (.func 105) #[] #[vP a6 0,vP az 0,vP a0 0]|11=>v= .agg #[vI I.B,vI I.A]∧AD I.B∧AD I.A|12=>Qj aw 51 [vI 0,vI 0] v hh|13=>Qj aw 51 [vI 0,vI 0] v hh|14=>Qj aw 51 [vI 0,vI 0] v hh|_=>False) [[],[(0,42)],[],[(2,44)],[(1,43),(3,45)],[],[(5,47)],[],[(7,49)],[(6,48),(8,50)],[],[(10,52)],[],[],[],[],[],[]] [(4,46),(9,51),(11,53),(12,14),(13,15),(14,16)] mo (by kernel_rfl) [13,37,36,11,10,9,8,7,6,0,1,38] O (by kernel_rfl) (by kernel_rfl) (by kernel_rfl) O (kp [13,37,36,11,10,9,8,7,6,0,1,38] O) (λi v h1 h2 o1 o2 g=>?_) (by kernel_rfl) (Ma (T:=51) O (Ma (T:=51) O (Ma (T:=51) O RP))) ?_ ?_ ?_
   ·match i,g with
     |0,g|2,g|3,g|4,g|5,g|7,g|8,g|9,g|10,g|11,g=>exact g
     |1,g|6,g=>exact Rd.mono g (o2.ext λb hb=>iY (z.1 b hb) o1.siz)
     |12,g|13,g|14,g=>exact g.mono o2
     |_+15,g=>exact g.elim
   ·exact trivial
   ·refine By.cons O O O (λ_ _ _=>A5 1 (AF SK O (BF O))) (By.cons O O O (λ_ _ o _ fe=>by cases fe;exact A5 1 (AT BX (o.st z) O mh O VU O (BF (cn.mono (b8.trans (o.ext z.1)))))) (By.cons O O O (λ_ _ _=>A5 1 (AF EV O (BF O))) (By.cons O O O (λ_ _ o _ ff=>by cases ff;exact A5 1 (AT BX (o.st z) O (mt (mt (mt (mt mh)))) O AZ O (BF ⟨O,ca⟩))) ?_)))
    refine By.cons O O O ?_ ?_
    ·intro mq hh o
     intro fg bv ka fh
     have Q:=SN.st z o
     have bv:=Rd.mono (S':=(SN a1 aw hh)) bv ⟨λb hb=> .inl hb,λ_ _=>rfl,jB _⟩
     have bv:Rd _ _ (B7.fn prog (λx:Int=>([vI x]:List Value)) (λx:Int=>AD x) (λy:AH=> .agg #[vI y.B,vI y.A]) (λy:AH=>AH.ok y)) fg a4.asks:=bv
     obtain⟨rfl,fi⟩:=fh
     obtain⟨je,jf,rfl,d2,d3⟩:=bv.fn
     refine Ea O O O d2 O Q (d3 _ _ (λb hb=>Q.1 b ((Cm.refl (SN a1 aw hh) hh).sub b hb)) (λb hb=>(Cm.refl (SN a1 aw hh) hh).same b hb) [] (St.all _) _ _ fi dz) λkb kc kd jg ke c2 p=>?_
     obtain⟨rfl,⟨fj,fk⟩,jh⟩:=p
     exact GB ⟨c2.siz,λb hb=>c2.same b hb⟩ ⟨O,fj,fk⟩
    refine By.cons O O O (λ_ _ _=>A5 1 (AF SK O (BF O))) (By.cons O O O (λ_ _ o _ fl=>by cases fl;exact A5 1 (AT BX (o.st z) O mh O VU O (BF (cn.mono (b8.trans (o.ext z.1)))))) (By.cons O O O (λ_ _ _=>A5 1 (AF D2 O (BF O))) (By.cons O O O (λ_ _ o _ fm=>by cases fm;exact A5 1 (AT BX (o.st z) O (mt (mt (mt (mt mh)))) O AZ O (BF ⟨O,cb⟩))) ?_)))
    refine By.cons O O O ?_ ?_
    ·intro mq hh o
     intro fo bw kf fp
     have Q:=SN.st z o
     have bw:=Rd.mono (S':=(SN a1 aw hh)) bw ⟨λb hb=> .inl hb,λ_ _=>rfl,jB _⟩
     have bw:Rd _ _ (B7.fn prog (λx:Int=>([vI x]:List Value)) (λx:Int=>AD x) (λy:AH=> .agg #[vI y.B,vI y.A]) (λy:AH=>AH.ok y)) fo a4.asks:=bw
     obtain⟨rfl,fq⟩:=fp
     obtain⟨ji,jj,rfl,d4,d5⟩:=bw.fn
     refine Ea O O O d4 O Q (d5 _ _ (λb hb=>Q.1 b ((Cm.refl (SN a1 aw hh) hh).sub b hb)) (λb hb=>(Cm.refl (SN a1 aw hh) hh).same b hb) [] (St.all _) _ _ fq d0) λkg kh ki jk kj c3 p=>?_
     obtain⟨rfl,⟨fr,fs⟩,jl⟩:=p
     exact GB ⟨c3.siz,λb hb=>c3.same b hb⟩ ⟨O,fr,fs⟩
    refine By.cons O O O (λ_ _ _=>A5 1 (AA O (BF O))) ?_
    refine By.cons O O O ?_ ?_
    ·intro mq hh o
     intro kk ft
     have Q:=SN.st z o
     cases ft
     refine Ea O O O W0 O Q (I2 (St.all _) (Q.bxAll (r:=AM) (x:=ak) (mt (mt (mt (mt mh)))) ⟨O,⟨ca,cb⟩⟩) (Q.bxAll (r:=BQ) (x:=bj) (mt (mt (mt mh))) ⟨O,ck⟩) (Q.bxAll (r:=BQ) (x:=bi) (mt (mt mh)) ⟨O,cj⟩) d1) λkl km kn jm ko c4 p=>?_
     obtain⟨rfl,⟨fu,fv⟩,jn⟩:=p
     exact GB ⟨c4.siz,λb hb=>c4.same b hb⟩ ⟨O,fu,fv⟩
    exact By.al O F7 O O (By.al O F7 O O (By.al O F7 O O (By.skip (by kernel_rfl) (By.skip (by kernel_rfl) (By.skip (by kernel_rfl) (trivial))))))
   intro kq co kr fw ks fx kt fy ku fz kv f0 kw f1 bz
   obtain⟨kx,rfl,f2,f3,f4⟩:=fz
   obtain⟨ky,rfl,f5,f6,f7⟩:=f0
   obtain⟨kz,rfl,f8,f9,ga⟩:=f1
   have d6:=(QE.cons (QE.cons (QE.cons (QE.nil z co) f2 f3 f4 jL) f5 f6 f7 (dN (bz.of_ (s:=15) (s':=14) (by kernel_rfl) O O O O) jL)) f8 f9 ga (dN (bz.of_ (s:=16) (s':=15) (by kernel_rfl) O O O O) (dN (bz.of_ (s:=16) (s':=14) (by kernel_rfl) O O O O) jL))).st
   obtain⟨rfl,gb,gc⟩:=fw
   obtain⟨rfl,ge,gf⟩:=fx
   obtain⟨rfl,gg,gh⟩:=fy
   refine BU (vs:=[vI ao.B,vI ao.A]) O O O O BY O d6 (.tail (.tail .head)) O λk0 d7 c5=>BU (vs:=[vI ap.B,vI ap.A]) O O O O BY O d7 (.tail .head) O λk1 d8 c6=>BU (vs:=[vI I.B,vI I.A]) O O O O BY O d8 .head O λk2 a5 c7=>AS (kp [14,15,16,13,37,36,11,10,9,8,7,6,0,1,38] O) (WF.sl (A5 11 (AF EV O (AT BX a5 O (mt (mt mh)) O AZ O (AF EV O (AT BX a5 O mh O AZ O (LE O O O (AF D2 O (AT BX a5 O (mt mh) O AZ O (AF D2 O (AT BX a5 O mh O AZ O (LE O O O (DB (cs:=[vI (min ao.B I.B),vI (min ap.A I.A)]) Ip O O O (A6 (CX F7 O a5 λk3 k4 d9 c8=>BU (vs:=[vI (min ao.B I.B),vI (min ap.A I.A)]) O O O O BY O d9 .head O λk5 bl c9=>AS (kp [17,14,15,13,37,36,11,10,9,8,7,6,0,1,38] O) (WF.sl (A5 6 (AA O (AF WG O (AT BX bl O (mt (mt (mt (mt mh)))) O AZ O (AF WE O (AT BX bl O (mt (mt (mt (mt mh)))) O AZ O (Cw (vs:=[vI (min ao.B I.B),vI (min ap.A I.A)]) BX bl O mh O O BY O O (A6 ?_))))))))))))))))))))))))
   have ea:=bl.sel [11,11,5,10,10,0,0,0,0,0,0,0,0,0,0] 0 O
   have am:=e4.trans ((ct.ext ay.1).trans (b3.trans ((b4.ext av.1).trans (cc.trans (cd.trans (ce.trans (cf.trans (ch.trans (b7.trans (cm.trans (b8.trans ((co.ext z.1).trans (c5.trans (c6.trans (c7.trans (c8.trans c9))))))))))))))))
   obtain⟨gi,eb,E⟩:=bd E
   refine GO O O O Wz O (J0 (p0_w:=({ p0_w with h:=({ p0_w.h with S:=bu}:Cf)}:BS)) ea a7 (a8.mono' am) a9 (ax.mono' am) (ba.mono' am) (bb.mono' am) (bc.mono' am) (be.mono' am) (bf.mono' am) (bg.mono' am) a2 a3 fc fd (AM.mk (x:=(⟨(min ao.B I.B),(min ap.A I.A)⟩:AH)) ⟨(ID gb gg),(ID gf gh)⟩) eb) λk6 k7 k8 gj p=>?_
   obtain⟨gk,rfl,bm⟩:=p
   refine AS (kp [14,15,13,37,36,11,10,9,8,7,6,0,1,38] O) (AC (F6 7 mo (by kernel_rfl) O bm (AT Bs bm O (mt (mt (mt (mt (mt (mt (mt (mt (mt (mt (mt mh))))))))))) O AZ O (AF D2 O (AT Bs bm O (mt (mt (mt (mt (mt (mt (mt (mt mh)))))))) O AZ O (AF SL O (AT Bs bm O (mt (mt (mt (mt (mt (mt (mt (mt (mt mh))))))))) O AZ O ?_)))))))
   obtain⟨k9,ec,E⟩:=bd E
   refine Bz O O O OY O (λh' o=>GR (St.all h') gc c1 ec) λgl=>?_
   have gm:=gl
   obtain⟨da,ed,E⟩:=bd E
   refine Bz O O O OY O (λh' o=>GR (St.all h') ck gm ed) λgn=>?_
   have gp:=gn
   refine E0 λla ee gq=>BU (vs:=[vI da]) O O O O AZ O ee (.tail (.tail (.tail (.tail (.tail (.tail (.tail (.tail (.tail (.tail (.tail .head))))))))))) O λlb bn gr=>AS (kp [15,13,37,36,11,10,9,8,7,6,0,1,38] O) (F6 7 mo (by kernel_rfl) O bn (AT Bs bn O (mt (mt (mt (mt (mt (mt (mt (mt (mt (mt mh)))))))))) O AZ O (AF EV O (AT Bs bn O (mt (mt (mt (mt (mt (mt (mt mh))))))) O AZ O (AF SL O (AT Bs bn O (mt (mt (mt (mt (mt (mt (mt (mt (mt mh))))))))) O AZ O ?_))))))
   obtain⟨lc,ef,E⟩:=bd E
   refine Bz O O O Jc O (λh' o=>Ek (St.all h') ge c1 ef) λgs=>?_
   have gu:=gs
   obtain⟨db,eg,E⟩:=bd E
   refine Bz O O O OY O (λh' o=>GR (St.all h') cj gu eg) λgv=>?_
   have gw:=gv
   refine E0 λle eh gx=>BU (vs:=[vI db]) O O O O AZ O eh (.tail (.tail (.tail (.tail (.tail (.tail (.tail (.tail (.tail (.tail .head)))))))))) O λlf ei gy=>AS (kp [37,36,11,10,9,8,7,6,0,1,38] O) (B0 (CL (.inl O) (BD O (AA O (AL (kp [38,37,36,11,10,9,8,7,6,0,1] O) (WF.nil (λaa ww hf hw=>?_)))))))
   have ej:=ei.sel [2,9,9,9,9,9,0,0,0,0] 5 O
   exact⟨(B8 (bh+1)),db,da,gk,gi,_,_,hf.sub (kp [37,36,11,10,9,8,7,6,0,1,38] O),hw,ej,(b7.trans (cm.trans (b8.trans ((co.ext z.1).trans (c5.trans (c6.trans (c7.trans (c8.trans (c9.trans (gj.trans (gq.trans (gr.trans (gx.trans gy))))))))))))),(CJ _),gw,gp,E⟩
  refine WF.exit O (λaa ww hf hw=>?_)
  exact⟨bi,bj,b6,bu,_,_,hf.sub (kp [11,7,6,0,1] O),hw,bx,b7,cj,ck,E⟩
 rintro aa ww ⟨bs,bt,ci,b5,lg,lh,hf,hw,bo,gz,g0,g1,E⟩
 refine A8 ?_ hf hw
 clear hf hw ww aa
 rw[Db] at E
 refine WF.sl (A5 1 (AA O (A6 ?_)))
 obtain⟨aq,ek,E⟩:=bd E
 refine Ea O O O W0 O bo (I2 (St.all _) (bo.bxAll (r:=AM) (x:=ak) (mt (mt (mt mh))) ⟨O,⟨ca,cb⟩⟩) (bo.bxAll (r:=BQ) (x:=bt) (mt (mt mh)) ⟨O,g1⟩) (bo.bxAll (r:=BQ) (x:=bs) (mt mh) ⟨O,g0⟩) ek) λli lj ll el g2 lm p=>?_
 obtain⟨rfl,⟨dc,dd⟩,jo⟩:=p
 refine CX F7 O el λcp lo em g3=>BU (vs:=[vI aq.B,vI aq.A]) O O O O BY O em .head O λg4 an g5=>AS (kp [18,7,6,0,1] O) (AC ?_)
 obtain⟨ai,en,E⟩:=bd E
 obtain⟨aj,eo,E⟩:=bd E
 refine Sm (m:=[(18,vP cp 0),(7,vP br 0),(6,vP b1 0),(0,vP c 0),(1,vI t)]) 14 (λi v hh=>match i with|0=>v=vP cp 0|1=>v=vI aq.B∧AD aq.B|2=>v=vP br 3|3=>v=vI G.Ag∧AD G.Ag|4=>v=vI ai∧AD ai|5=>v=vI (max 0 ai)∧AD (max 0 ai)|6=>v=vP cp 1|7=>v=vI aq.A∧AD aq.A|8=>v=vP br 3|9=>v=vI G.Ag∧AD G.Ag|10=>v=vI aj∧AD aj|11=>v=vI (max 0 aj)∧AD (max 0 aj)|12=>v= .agg #[vI (max 0 ai),vI (max 0 aj)]∧AD (max 0 ai)∧AD (max 0 aj)|13=>Qj g4 51 [vI 0,vI 0] v hh|_=>False) [[],[(0,89)],[],[(2,91)],[(1,90),(3,92)],[(4,93)],[],[(6,95)],[],[(8,97)],[(7,96),(9,98)],[(10,99)],[(5,94),(11,100)],[]] [(12,101),(13,19)] mo (by kernel_rfl) [18,7,6,0,1] O (by kernel_rfl) (by kernel_rfl) (by kernel_rfl) (kp [18,7,6,0,1] O) (λi v h1 h2 o1 o2 g=>?_) ?_ ?_
 ·match i,g with
   |0,g|1,g|2,g|3,g|4,g|5,g|6,g|7,g|8,g|9,g|10,g|11,g|12,g=>exact g
   |13,g=>exact g.mono o2
   |_+14,g=>exact g.elim
 ·refine DU.cons O (λ_ _ _=>A5 1 (AF EV O (BF O))) (DU.cons O (λ_ _ o _ g6=>by cases g6;exact A5 1 (AT BX (o.st an) O mh O AZ O (BF ⟨O,dc⟩))) (DU.cons O (λ_ _ _=>A5 1 (AF Nj O (BF O))) (DU.cons O (λ_ _ o _ g7=>by cases g7;exact A5 1 (AT BX (o.st an) O (mt (mt (mt (mt (mt mh))))) O AZ O (BF ⟨O,cx⟩))) ?_)))
  refine DU.cons O ?_ ?_
  ·intro mq hh o
   intro lp g8 lq g9
   have Q:=SN.st an o
   obtain⟨rfl,ha⟩:=g8
   obtain⟨rfl,hc⟩:=g9
   refine Ea O O O Jc O Q (Ek (St.all _) ha hc en) λlr ls lt jp lu de p=>?_
   obtain⟨rfl,hd,jq⟩:=p
   exact GB ⟨de.siz,λb hb=>de.same b hb⟩ ⟨O,hd⟩
  refine DU.cons O (λ_ _ _ _ he=>by obtain⟨rfl,hg⟩:=he;exact A5 1 (Jf O O O (BF ⟨O,(HI (iq (n:=0) O) hg)⟩))) (DU.cons O (λ_ _ _=>A5 1 (AF D2 O (BF O))) (DU.cons O (λ_ _ o _ hj=>by cases hj;exact A5 1 (AT BX (o.st an) O mh O AZ O (BF ⟨O,dd⟩))) (DU.cons O (λ_ _ _=>A5 1 (AF Nj O (BF O))) (DU.cons O (λ_ _ o _ hk=>by cases hk;exact A5 1 (AT BX (o.st an) O (mt (mt (mt (mt (mt mh))))) O AZ O (BF ⟨O,cx⟩))) ?_))))
  refine DU.cons O ?_ ?_
  ·intro mq hh o
   intro lv hl lw hm
   have Q:=SN.st an o
   obtain⟨rfl,hn⟩:=hl
   obtain⟨rfl,ho⟩:=hm
   refine Ea O O O Jc O Q (Ek (St.all _) hn ho eo) λlx ly lz jr l0 df p=>?_
   obtain⟨rfl,hp,js⟩:=p
   exact GB ⟨df.siz,λb hb=>df.same b hb⟩ ⟨O,hp⟩
  exact DU.cons O (λ_ _ _ _ hq=>by obtain⟨rfl,ht⟩:=hq;exact A5 1 (Jf O O O (BF ⟨O,(HI (iq (n:=0) O) ht)⟩))) (DU.cons O (λ_ _ _=>by intro l1 hu l2 hv;obtain ⟨rfl,hx⟩:=hu;obtain ⟨rfl,hy⟩:=hv;exact A5 1 (DB (cs:=[vI (max 0 ai),vI (max 0 aj)]) Ip O O O (BF ⟨O,hx,hy⟩))) (DU.cons O (λ_ _ o=>Ps o F7 O λ_ h' o' r'=>GB o' r') trivial))
 intro l3 dg l4 hz l5 h0
 obtain⟨l6,rfl,ep⟩:=h0.st an dg
 obtain⟨rfl,dh,di⟩:=hz
 refine BU (vs:=[vI (max 0 ai),vI (max 0 aj)]) O O O O BY O ep .head O λl7 bp h3=>AS (kp [19,18,7,6,0,1] O) (WF.sl (A5 6 (AA O (AF O0 O (AT BX bp O (mt (mt (mt (mt (mt (mt mh)))))) O AZ O (AF Q8 O (AT BX bp O (mt (mt (mt (mt (mt (mt mh)))))) O AZ O (Cw (vs:=[vI (max 0 ai),vI (max 0 aj)]) BX bp O mh O O BY O O (A6 ?_)))))))))
 have eq:=bp.sel [8,8,2,7,7,0,0,0,0,0,0,0] 0 O
 have ah:=e4.trans ((ct.ext ay.1).trans (b3.trans ((b4.ext av.1).trans (cc.trans (cd.trans (ce.trans (cf.trans (ch.trans (gz.trans (g2.trans (g3.trans (g5.trans ((dg.ext an.1).trans h3)))))))))))))
 obtain⟨l8,er,E⟩:=bd E
 refine GO O O O Wz O (J0 (p0_w:=({ p0_w with h:=({ p0_w.h with S:=b5}:Cf)}:BS)) eq a7 (a8.mono' ah) a9 (ax.mono' ah) (ba.mono' ah) (bb.mono' ah) (bc.mono' ah) (be.mono' ah) (bf.mono' ah) (bg.mono' ah) a2 a3 i9 ja (AM.mk (x:=(⟨(max 0 ai),(max 0 aj)⟩:AH)) ⟨dh,di⟩) er) λl9 ma mb h4 p=>?_
 obtain⟨mc,rfl,au⟩:=p
 refine AS (kp [19,18,7,6,0,1] O) (AC (Po 18 mo (by kernel_rfl) O (AA O (FV O O (AF Fd O (AF MV O (AT BX au O mh O IK O (AA O (AF EV O (AT BX au O (mt (mt (mt (mt (mt (mt mh)))))) O AZ O (AF Nj O (AT BX au O (mt (mt (mt (mt (mt (mt (mt (mt (mt (mt mh)))))))))) O AZ O (LE O O O (AF D2 O (AT BX au O (mt (mt (mt (mt (mt (mt mh)))))) O AZ O (AF Nj O (AT BX au O (mt (mt (mt (mt (mt (mt (mt (mt (mt (mt mh)))))))))) O AZ O (LE O O O (DB (cs:=[vI (min aq.B G.Ag),vI (min aq.A G.Ag)]) Ip O O O ?_)))))))))))))))))))
 obtain⟨md,es,E⟩:=bd E
 refine DN au (mt mh) O O Gs es O λme et=>A6 ?_
 obtain⟨h5,eu,E⟩:=bd E
 refine IB (r:=AM) (l:=p0_w.h.M) (i:=t) (x:=h5) O O (AM.mk (x:=(⟨(min aq.B G.Ag),(min aq.A G.Ag)⟩:AH)) ⟨(ID dc cx),(ID dd cx)⟩) et eu N3.id BY (λe=>by cases e) au (.tail .head) λmf cq h6=>AS (kp [19,6] O) (WF.sl (A5 1 (Cw (vs:=[vI (max 0 ai),vI (max 0 aj)]) BX cq O (mt (mt (mt (mt (mt mh))))) O O BY O O (A6 (BU (vs:=[vI (max 0 ai),vI (max 0 aj)]) O O O O BY O cq (.tail (.tail (.tail (.tail (.tail (.tail (.tail (.tail (.tail (.tail (.tail .head))))))))))) O λmg ev h7=>AS (kp [6] O) (WF.ret (λaa ww hf hw=>?_)))))))
 have cr:=ev.sel [11,0,0,0,0,0] 6 O
 have ew:=cr.sel [1,1,1,1,1] 1 O
 cases E
 exact I1 hf O hw (IH (M2 hf hw cr O mh BY O) Io) O (ah.trans (h4.trans (h6.trans h7))) ⟨_,_,O,⟨dh,di⟩,ew⟩
end Go.Proofs.YtibidnaedddfdaaGreat
