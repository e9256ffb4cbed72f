import Derived.Test.YtibidnaedddfdaaGreatDWalk2
namespace Go.Proofs.YtibidnaedddfdaaGreat
set_option linter.all false
open Go.RowKit
open Go.Proofs.Tryz
set_option maxRecDepth 10000
set_option maxHeartbeats 2000000
variable {N:Nat}{S:Nat→Prop}{L:List HP}{h:BB}
def Ja (g:St S L h) {a:Int}(b:IntKind.has .u64 a) {r:Int}(E:EW N a=some r):
 Ct prog 171 #[.int .u64 a] S h (λv S' h'=>v=vI r∧AD r∧St S' (L) h'):=by
 refine BO (l:=[.int .u64 a]) 6 func171 O ntmps171 O λB=>?_
 rw[EW] at E
 refine AE (AJ O (kp [0] O) (AC (WF.rc (.inl O) g (AA O ?_))))
 obtain⟨n,c,E⟩:=bd E
 refine Bz O O O Z0 O (λh' o=>Mf (St.all h') b c) λi=>?_
 have p:=i
 refine FU O (A4 O (Bu (kp [2] O) λq d j=>WF.ret (λs t k m=>?_)))
 cases E
 exact EU k m O O j ⟨O,(CJ _),d⟩
def Jm (hs:St S L h) {d:Int}(Y:IntKind.has .u64 d) {b:Int}(A:IntKind.has .u64 b) {c:Int}(F:IntKind.has .u64 c) {r:Int×Int}(E:Ew N d b c=some r):
 Ct prog 143 #[.int .u64 d,.int .u64 b,.int .u64 c] S h (λv S' h'=>v= .tuple #[.int .u64 r.1,.int .u64 r.2]∧IntKind.has .u64 r.1∧IntKind.has .u64 r.2∧St S' (L) h'):=by
 refine BO (l:=[.int .u64 d,.int .u64 b,.int .u64 c]) 135 func143 O ntmps143 O λB=>?_
 rw[Ew] at E
 refine AE (A4 O (AJ O (kp [0,1,2] O) (AC (AE (AA O (CR O (AL (kp [20,0,1,2] O) (AW O E (λc1 E=>?_) (λc1 E=>?_)))))))))
 ·cases E
 refine AQ (AC (AE (AA O (AA O (HC O (AL (kp [24,0,1,2] O) (AW O E (λc2 E=>?_) (λc2 E=>?_))))))))
 ·cases E
 refine AQ (AC (AE (AA O (CR O (AL (kp [27,0,1,2] O) (AW O E (λc3 E=>?_) (λc3 E=>?_)))))))
 ·refine AC (CL (.inr ⟨mo,by kernel_rfl⟩) (AA O (AA O ?_)))
  obtain⟨z4,Z,E⟩:=bd E
  have r5:IntKind.has .u64 z4:=Lt Z
  refine RX O O O Z (AA O (AA O ?_))
  obtain⟨z6,ab,E⟩:=bd E
  have r7:IntKind.has .u64 z6:=Vo A ab
  refine YV O O O ab (A4 O (AJ O (kp [7,6] O) (WF.ret (λu x k m=>?_))))
  cases E
  exact I1 k O m (IH (LV k (v:=_) O) (IH (LV k (v:=_) O) Io)) O (Cm.refl S h) ⟨O,r5,r7,hs⟩
 refine AQ (AC (WF.rc (.inl O) hs (AA O ?_)))
 obtain⟨H,ak,E⟩:=bd E
 refine Bz O O O Z5 O (λh' o=>Ja (St.all h') F ak) λr9=>?_
 have az:=r9
 refine GI O Mz O6 O (A4 O (Bu (kp [8,0,1,2] O) λK ac al=>AE (AA O (AA O ?_))))
 obtain⟨g,ad,E⟩:=bd E
 refine RW (j:=g) O O O ad (AJ O (kp [2,8,0,1] O) (AE (AA O (Hw (j:=32) O O O O (AJ O (kp [9,2,8,0,1] O) (AE (AA O (Nz O O O (AJ O (kp [10,9,2,8,0,1] O) (AE (AA O (AA O ?_))))))))))))
 obtain⟨n,ae,E⟩:=bd E
 refine RW (j:=n) O O O ae (AA O (AA O (LD O O O ?_)))
 obtain⟨p,af,E⟩:=bd E
 refine Hw (j:=p) O O O af (aY O O O (AJ O (kp [11,10,9,2,8,1] O) (AE (AA O (AA O ?_)))))
 obtain⟨i,ag,E⟩:=bd E
 refine RW (j:=i) O O O ag (AJ O (kp [12,11,10,9,2,8] O) (AE (AA O (Hw (j:=32) O O O O (AJ O (kp [13,12,11,10,9,2,8] O) (AE (AA O (Nz O O O (AJ O (kp [14,13,11,10,9,2,8] O) (AE (AA O (AA O ?_))))))))))))
 obtain⟨M,I,E⟩:=bd E
 have am:IntKind.has .u64 M:=Lt I
 refine RX O O O I (AJ O (kp [15,14,13,11,10,9,2,8] O) (AE (AA O (AA O (AA O (HB O O O (LD O O O (AJ O (kp [16,15,14,13,11,10,9,2,8] O) (AC (BG (λa w=>∃(q:Int),IV B S K (135,[]) a w [(14,.int .u64 (Gj .and .u64 (DV .u64 b i) 4294967295)),(13,.int .u64 (Du .u64 (DV .u64 b i) 32)),(11,.int .u64 (Gj .or .u64 (DV .u64 d n) (Du .u64 b p))),(10,.int .u64 (Gj .and .u64 (DV .u64 c g) 4294967295)),(9,.int .u64 (Du .u64 (DV .u64 c g) 32)),(2,.int .u64 (DV .u64 c g)),(8,.int .u64 (IntKind.wrap .u64 H)),(15,.int .u64 q)] (L) λ_ _=>IntKind.has .u64 q∧DZ N d b c H g n p i q=some r) ?_ ?_))))))))))
 ·refine Bt (λn1=>λa w=>∃(s:Int) (y:Int),IV B S K (135,[]) a w [(14,.int .u64 (Gj .and .u64 (DV .u64 b i) 4294967295)),(13,.int .u64 (Du .u64 (DV .u64 b i) 32)),(11,.int .u64 (Gj .or .u64 (DV .u64 d n) (Du .u64 b p))),(10,.int .u64 (Gj .and .u64 (DV .u64 c g) 4294967295)),(9,.int .u64 (Du .u64 (DV .u64 c g) 32)),(2,.int .u64 (DV .u64 c g)),(8,.int .u64 (IntKind.wrap .u64 H)),(15,.int .u64 s),(16,.int .u64 y)] (L) λ_ _=>IntKind.has .u64 s∧IntKind.has .u64 y∧C7 N b c g i (DZ N d b c H g n p i) n1 s y=some r) N ?_ ?_ ?_
  ·intro u x k m
   exact⟨M,(IntKind.wrap .u64 ((Gj .or .u64 (DV .u64 d n) (Du .u64 b p))-(IntKind.wrap .u64 (M*(Du .u64 (DV .u64 c g) 32))))),_,_,k.sub (kp [14,13,11,10,9,2,8,15,16] O),m,ac,(Cm.refl S K),am,(EN _ _),E⟩
  ·rintro u x ⟨_,_,_,_,_,_,_,_,_,_,E⟩
   rw[C7] at E;cases E
  rintro n1 u x ⟨s,y,a0,a1,k,m,C,Q,an,a2,E⟩
  refine A8 ?_ k m
  clear k m x u
  rw[C7] at E
  refine AC (AE (AA O (EQ O (AA O (AO 9 78 (.bool ((decide (4294967296≤s))||(decide ((IntKind.wrap .u64 ((IntKind.wrap .u64 (4294967296*y))+(Du .u64 (DV .u64 b i) 32)))<(IntKind.wrap .u64 (s*(Gj .and .u64 (DV .u64 c g) 4294967295))))))) ?_ ?_)))))
  ·cases a3:(decide (4294967296≤s))
   ·exact AB O (AA O (AB O (AA O (AB O (HB O O O (AB O (AA O (AB O (HB O O O (AB O (AA O (AB O (Id O O O (AB O (CN O (AI O (AN O)))))))))))))))))
   exact AX O O
  refine AL (kp [78,14,13,11,10,9,2,8,15,16] O) (AW O E (λao E=>?_) (λao E=>?_))
  ·refine AQ (BW (AE (AA O (LD O O O (AJ O (kp [15,14,13,11,10,9,2,8,16] O) (AE (AA O (AA O (Id O O O (AJ O (kp [16,15,14,13,11,10,9,2,8] O) (AE (AA O (EQ O (AL (kp [85,16,15,14,13,11,10,9,2,8] O) (AW O E (λap E=>?_) (λap E=>?_))))))))))))))))
   ·refine WF.exit O (λu x k m=>?_)
    exact⟨(IntKind.wrap .u64 (s-1)),_,_,k.sub (kp [14,13,11,10,9,2,8,15] O),m,C,Q,(EN _ _),E⟩
   refine AQ (B0 (WF.nil (λu x k m=>?_)))
   exact⟨(IntKind.wrap .u64 (s-1)),(IntKind.wrap .u64 (y+(Du .u64 (DV .u64 c g) 32))),_,_,k.sub (kp [14,13,11,10,9,2,8,15,16] O),m,C,Q,(EN _ _),(EN _ _),E⟩
  refine WF.exit O (λu x k m=>?_)
  exact⟨s,_,_,k.sub (kp [14,13,11,10,9,2,8,15] O),m,C,Q,an,E⟩
 rintro u x ⟨q,U,V,k,m,ah,aq,a4,E⟩
 refine A8 ?_ k m
 clear k m x u
 rw[DZ] at E
 refine AE (AA O (HB O O O (AA O (Id O O O (AA O (AA O (HB O O O (LD O O O (AJ O (kp [17,14,10,9,2,8,15] O) (AE (AA O (AA O ?_))))))))))))
 obtain⟨W,J,E⟩:=bd E
 have ar:IntKind.has .u64 W:=Lt J
 refine RX O O O J (AJ O (kp [18,17,14,10,9,2,8,15] O) (AE (AA O (AA O (AA O (HB O O O (LD O O O (AJ O (kp [16,18,17,14,10,9,2,8,15] O) (AC (BG (λa w=>∃(G:Int),IV B U V (135,[]) a w [(17,.int .u64 (IntKind.wrap .u64 ((IntKind.wrap .u64 ((IntKind.wrap .u64 ((Gj .or .u64 (DV .u64 d n) (Du .u64 b p))*4294967296))+(Du .u64 (DV .u64 b i) 32)))-(IntKind.wrap .u64 (q*(DV .u64 c g)))))),(14,.int .u64 (Gj .and .u64 (DV .u64 b i) 4294967295)),(2,.int .u64 (DV .u64 c g)),(8,.int .u64 (IntKind.wrap .u64 H)),(15,.int .u64 q),(18,.int .u64 G)] (L) λ_ _=>IntKind.has .u64 G∧EX N d b c H g n p i q G=some r) ?_ ?_))))))))))
 ·refine Bt (λn3=>λa w=>∃(z:Int) (t:Int),IV B U V (135,[]) a w [(17,.int .u64 (IntKind.wrap .u64 ((IntKind.wrap .u64 ((IntKind.wrap .u64 ((Gj .or .u64 (DV .u64 d n) (Du .u64 b p))*4294967296))+(Du .u64 (DV .u64 b i) 32)))-(IntKind.wrap .u64 (q*(DV .u64 c g)))))),(14,.int .u64 (Gj .and .u64 (DV .u64 b i) 4294967295)),(10,.int .u64 (Gj .and .u64 (DV .u64 c g) 4294967295)),(9,.int .u64 (Du .u64 (DV .u64 c g) 32)),(2,.int .u64 (DV .u64 c g)),(8,.int .u64 (IntKind.wrap .u64 H)),(15,.int .u64 q),(16,.int .u64 z),(18,.int .u64 t)] (L) λ_ _=>IntKind.has .u64 z∧IntKind.has .u64 t∧DY N b c g i (EX N d b c H g n p i q) n3 z t=some r) N ?_ ?_ ?_
  ·intro u x k m
   exact⟨(IntKind.wrap .u64 ((IntKind.wrap .u64 ((IntKind.wrap .u64 ((IntKind.wrap .u64 ((Gj .or .u64 (DV .u64 d n) (Du .u64 b p))*4294967296))+(Du .u64 (DV .u64 b i) 32)))-(IntKind.wrap .u64 (q*(DV .u64 c g)))))-(IntKind.wrap .u64 (W*(Du .u64 (DV .u64 c g) 32))))),W,_,_,k.sub (kp [17,14,10,9,2,8,15,16,18] O),m,ah,(Cm.refl U V),(EN _ _),ar,E⟩
  ·rintro u x ⟨_,_,_,_,_,_,_,_,_,_,E⟩
   rw[DY] at E;cases E
  rintro n3 u x ⟨z,t,a5,a6,k,m,D,X,a7,au,E⟩
  refine A8 ?_ k m
  clear k m x u
  rw[DY] at E
  refine AC (AE (AA O (EQ O (AA O (AO 9 113 (.bool ((decide (4294967296≤t))||(decide ((IntKind.wrap .u64 ((IntKind.wrap .u64 (4294967296*z))+(Gj .and .u64 (DV .u64 b i) 4294967295)))<(IntKind.wrap .u64 (t*(Gj .and .u64 (DV .u64 c g) 4294967295))))))) ?_ ?_)))))
  ·cases a8:(decide (4294967296≤t))
   ·exact AB O (AA O (AB O (AA O (AB O (HB O O O (AB O (AA O (AB O (HB O O O (AB O (AA O (AB O (Id O O O (AB O (CN O (AI O (AN O)))))))))))))))))
   exact AX O O
  refine AL (kp [113,17,14,10,9,2,8,15,16,18] O) (AW O E (λav E=>?_) (λav E=>?_))
  ·refine AQ (BW (AE (AA O (LD O O O (AJ O (kp [18,17,14,10,9,2,8,15,16] O) (AE (AA O (AA O (Id O O O (AJ O (kp [16,18,17,14,10,9,2,8,15] O) (AE (AA O (EQ O (AL (kp [120,16,18,17,14,10,9,2,8,15] O) (AW O E (λaw E=>?_) (λaw E=>?_))))))))))))))))
   ·refine WF.exit O (λu x k m=>?_)
    exact⟨(IntKind.wrap .u64 (t-1)),_,_,k.sub (kp [17,14,2,8,15,18] O),m,D,X,(EN _ _),E⟩
   refine AQ (B0 (WF.nil (λu x k m=>?_)))
   exact⟨(IntKind.wrap .u64 (z+(Du .u64 (DV .u64 c g) 32))),(IntKind.wrap .u64 (t-1)),_,_,k.sub (kp [17,14,10,9,2,8,15,16,18] O),m,D,X,(EN _ _),(EN _ _),E⟩
  refine WF.exit O (λu x k m=>?_)
  exact⟨t,_,_,k.sub (kp [17,14,2,8,15,18] O),m,D,X,au,E⟩
 rintro u x ⟨G,a9,ba,k,m,ai,ax,bb,E⟩
 refine A8 ?_ k m
 clear k m x u
 rw[EX] at E
 refine AE (AA O (HB O O O (AA O (Id O O O (AA O (HB O O O (AA O (Id O O O (AA O (AA O (HB O O O (LD O O O (AA O ?_)))))))))))))
 obtain⟨ay,aj,E⟩:=bd E
 refine Hw (j:=ay) O O O aj (A4 O (AJ O (kp [7,6] O) (WF.ret (λu x k m=>?_))))
 cases E
 exact I1 k O m (IH (LV k (v:=_) O) (IH (LV k (v:=_) O) Io)) O (al.trans (aq.trans ax)) ⟨O,(EN _ _),(Ow _ (EN _ _) _),ai⟩
def IZ (H:St S L h) {b:Int}(w:AD b) {a:Int}(q:AD a) {c:Int}(s:AD c) {r:Int×Int×Bool}(E:Fa N b a c=some r):
 Ct prog 152 #[vI b,vI a,vI c] S h (λv S' h'=>v= .tuple #[vI r.1,vI r.2.1,.bool r.2.2]∧AD r.1∧AD r.2.1∧St S' (L) h'):=by
 refine BO (l:=[vI b,vI a,vI c]) 61 func152 O ntmps152 O λB=>?_
 rw[Fa] at E
 refine AE (A4 O (A4 O (AJ O (kp [0,1,2] O) (AC (AE (AA O (BE O (AA O (AO 3 18 (.bool ((decide (b<0))||(decide (1125899906842624<b)))) ?_ ?_)))))))))
 ·cases W:(decide (b<0))
  ·exact AB O (AA O (AB O (CN O (AI O (AN O)))))
  exact AX O O
 refine AA O (AO 3 22 (.bool (((decide (b<0))||(decide (1125899906842624<b)))||(decide (a<0)))) ?_ ?_)
 ·cases X:((decide (b<0))||(decide (1125899906842624<b)))
  ·exact AB O (AA O (AB O (BE O (AI O (AN O)))))
  exact AX O O
 refine AA O (AO 3 26 (.bool ((((decide (b<0))||(decide (1125899906842624<b)))||(decide (a<0)))||(decide (1125899906842624<a)))) ?_ ?_)
 ·cases Y:(((decide (b<0))||(decide (1125899906842624<b)))||(decide (a<0)))
  ·exact AB O (AA O (AB O (CN O (AI O (AN O)))))
  exact AX O O
 refine AA O (AO 3 30 (.bool (((((decide (b<0))||(decide (1125899906842624<b)))||(decide (a<0)))||(decide (1125899906842624<a)))||(decide (c<1)))) ?_ ?_)
 ·cases Z:((((decide (b<0))||(decide (1125899906842624<b)))||(decide (a<0)))||(decide (1125899906842624<a)))
  ·exact AB O (AA O (AB O (BE O (AI O (AN O)))))
  exact AX O O
 refine AA O (AO 3 34 (.bool ((((((decide (b<0))||(decide (1125899906842624<b)))||(decide (a<0)))||(decide (1125899906842624<a)))||(decide (c<1)))||(decide (1125899906842624<c)))) ?_ ?_)
 ·cases c5:(((((decide (b<0))||(decide (1125899906842624<b)))||(decide (a<0)))||(decide (1125899906842624<a)))||(decide (c<1)))
  ·exact AB O (AA O (AB O (CN O (AI O (AN O)))))
  exact AX O O
 refine AL (kp [34,0,1,2] O) (AW O E (λI E=>?_) (λI E=>?_))
 ·refine AE (A4 O (A4 O (AJ O (kp [8,7,6] O) (WF.ret (λy z d k=>?_)))))
  cases E
  exact I1 d O k (IH (LV d (v:=_) O) (IH (LV d (v:=_) O) (IH (LV d (v:=_) O) Io))) O (Cm.refl S h) ⟨O,(iq (n:=0) O),(iq (n:=0) O),H⟩
 refine AQ (AC (WF.rc (.inl O) H (AA O (GI O Mz KX O (AA O (GI O Mz KX O ?_))))))
 obtain⟨x,A,E⟩:=bd E
 refine Hk (v:= .tuple #[.int .u64 x.1,.int .u64 x.2]) (Ψ:=IntKind.has .u64 x.1∧IntKind.has .u64 x.2) O O O Wt O (λh' o=>(Jl (St.all h') (EN _ _) (EN _ _) A).mono λ_ _ _ _ p=>⟨p.1,⟨p.2.1,p.2.2.1⟩⟩) λJ=>?_
 obtain⟨K,C⟩:=J
 refine AA O (De O (De O (A4 O (A4 O (Bu (kp [10,9,2] O) λM i m=>AC (AE (AA O (AA O (GI O Mz KX O (EQ O (AL (kp [46,10,9,2] O) (AW O E (λD E=>?_) (λD E=>?_)))))))))))))
 ·refine AE (A4 O (A4 O (AJ O (kp [8,7,6] O) (WF.ret (λy z d k=>?_)))))
  cases E
  exact I1 d O k (IH (LV d (v:=_) O) (IH (LV d (v:=_) O) (IH (LV d (v:=_) O) Io))) O m ⟨O,(iq (n:=0) O),(iq (n:=0) O),i⟩
 refine AQ (AC (WF.rc (.inl O) i (AA O (AA O (AA O (GI O Mz KX O ?_))))))
 obtain⟨g,t,E⟩:=bd E
 refine Hk (v:= .tuple #[.int .u64 g.1,.int .u64 g.2]) (Ψ:=IntKind.has .u64 g.1∧IntKind.has .u64 g.2) O O O Ws O (λh' o=>(Jm (St.all h') K C (EN _ _) t).mono λ_ _ _ _ p=>⟨p.1,⟨p.2.1,p.2.2.1⟩⟩) λF=>?_
 obtain⟨Q,U⟩:=F
 refine AA O (De O (De O (A4 O (A4 O (Bu (kp [12,11] O) λV j u=>AC (AE (AA O (CN O (AL (kp [56,12,11] O) (AW O E (λG E=>?_) (λG E=>?_)))))))))))
 ·refine AE (A4 O (A4 O (AJ O (kp [8,7,6] O) (WF.ret (λy z d k=>?_)))))
  cases E
  exact I1 d O k (IH (LV d (v:=_) O) (IH (LV d (v:=_) O) (IH (LV d (v:=_) O) Io))) O (m.trans u) ⟨O,(iq (n:=0) O),(iq (n:=0) O),j⟩
 refine AQ (AE (AA O (GI O KX Mz O (AA O (GI O KX Mz O (A4 O (A4 O (AJ O (kp [8,7,6] O) (WF.ret (λy z d k=>?_))))))))))
 cases E
 exact I1 d O k (IH (LV d (v:=_) O) (IH (LV d (v:=_) O) (IH (LV d (v:=_) O) Io))) O (m.trans u) ⟨O,(CJ _),(CJ _),j⟩
def Jb (hs:St S L h) {d:Value}{i:(List BC)}(s:Sl S h CM d i) {b:Int}(t:AD b) {r:Int×Bool}(E:EB N i b=some r):
 Ct prog 170 #[d,vI b] S h (λv S' h'=>v= .tuple #[vI r.1,.bool r.2]∧AD r.1∧St S' (L) h'):=by
 refine BO (l:=[d,vI b]) 63 func170 O ntmps170 O λB=>?_
 rw[EB] at E
 refine WF.sl (BM O (RU s) (λ_=>rfl) O hs λq1 S2 h3 ab e5 k6=>BM O (⟨_,O,O,t⟩:Rd _ _ BQ _ b) (λ_=>rfl) O ab λq7 S8 h9 j u D=>A5 2 (A4 O (A4 O (A6 (AS (kp [3,2] O) (AC (WF.rc (.inl O) j ?_)))))))
 have w:=k6.mono u
 refine BR Bs j.1 O w Hs O λa1 ac=>BJ O ac He O λad=>KD O O O ?_
 have F:Rd S8 h9 (B7.fn prog (λx:Int=>([vI x]:List Value)) (λx:Int=>AD x) (λy:Bool=> .bool y) (λy:Bool=>True)) (.func (.func 183) #[] #[q1,q7]) (λx=>Eh N i b x):=LB 183 #[q1,q7] Z1 λS' h' s' e' L hs x y h1 h2=>(Np hs h1 (w.mono'' s' e') (D.mono'' s' e') h2).mono λ_ _ _ _ p=>⟨p.1,trivial,p.2⟩
 obtain⟨a2,H,E⟩:=bd E
 refine Bz O O O Z6 O (λh' o=>Ob (St.all h') (LW ad) (F.mono (o.all j.1)) H) λae=>?_
 have a3:=ae
 refine A4 O (Bu (kp [6,3,2] O) λa4 c g=>AC (AE (AA O (CR O (AL (kp [16,6,3,2] O) (AW O E (λaf E=>?_) (λaf E=>?_)))))))
 ·refine AE (BR BX c.1 O (w.mono g) Hs O λa5 ag=>?_)
  obtain⟨a6,I,E⟩:=bd E
  refine B6 O O ag He I O λa7 ah=>AV O ah KF Hu O λa8 ai=>AY BX c.1 O ai AZ O λaj=>A4 O (AJ O (kp [5,4] O) (WF.ret (λaa ww k J=>?_)))
  cases E
  exact I1 k O J (IH (LV k (v:=_) O) (IH (LV k (v:=_) O) Io)) O (e5.trans (u.trans g)) ⟨O,aj,c⟩
 refine AQ (WF.sl (A5 5 ?_))
 have K:=w.mono g
 refine BR BX c.1 O K Hs O λa9 ak=>AA O (FU O ?_)
 obtain⟨M,Q,E⟩:=bd E
 refine B6 O O ak He Q O λba am=>BP BX c.1 O am OM (λe=>by cases e) O λbb an=>A6 (CX Ti O c λbc be U m=>?_)
 obtain⟨rfl,⟨bf,ao⟩⟩:=CM.ex (an.mono m)
 refine BU (vs:=[vI M.G,vI M.L]) O O O O OM O U .head O λbg a z=>AS (kp [7,6,3,2] O) (AC (AE (AA O ?_)))
 have C:=K.mono (m.trans z)
 refine BR BX a.1 O C Hs O λbh ap=>BJ O ap He O λbi=>CR O (AL (kp [29,7,6,3,2] O) (AW O E (λaq E=>?_) (λaq E=>?_)))
 ·refine AE (AF Hu O (AT BX a O mh O AZ O (A4 O (AJ O (kp [5,4] O) (WF.ret (λaa ww k J=>?_))))))
  have V:=a.drop .head
  cases E
  exact I1 k O J (IH (LV k (v:=_) O) (IH (LV k (v:=_) O) Io)) O (e5.trans (u.trans (g.trans (m.trans z)))) ⟨O,ao,V⟩
 refine AQ (AC (WF.rc (.inr ⟨mo,by kernel_rfl⟩) a (AY Bs a.1 O (D.mono (g.trans (m.trans z))) AZ O λbj=>AF IT O (AT Bs a O mh O AZ O (FU O (BR Bs a.1 O C Hs O λbk ar=>AA O ?_))))))
 obtain⟨bl,W,E⟩:=bd E
 refine B6 O O ar He W O λbm au=>AV O au KF Hu O λbn av=>AY Bs a.1 O av AZ O λbo=>AF Hu O (AT Bs a O mh O AZ O (FU O (BR Bs a.1 O C Hs O λbp aw=>AA O ?_)))
 obtain⟨bq,X,E⟩:=bd E
 refine B6 O O aw He X O λbr ax=>AV O ax KG IT O λbs ay=>AY Bs a.1 O ay AZ O λbt=>AF IT O (AT Bs a O mh O AZ O (FU O ?_))
 obtain⟨n,Y,E⟩:=bd E
 refine Hk (v:= .tuple #[vI n.1,vI n.2.1,.bool n.2.2]) (Ψ:=AD n.1∧AD n.2.1) O O O RK O (λh' o=>(IZ (St.all h') (CJ _) (CJ _) (CJ _) Y).mono λ_ _ _ _ p=>⟨p.1,⟨p.2.1,p.2.2.1⟩⟩) λaz=>?_
 obtain⟨bu,bv⟩:=az
 refine AA O (De O (De O (De O (A4 O (A4 O (A4 O (Bu (kp [9,8,7] O) λbw A a0=>AE (AF Hu O (AT BX A O mh O AZ O (AA O (BD O (AA O (CN O (A4 O (AJ O (kp [5,4] O) (WF.ret (λaa ww k J=>?_)))))))))))))))))
 have Z:=A.drop .head
 cases E
 exact I1 k O J (IH (LV k (v:=_) O) (IH (LV k (v:=_) O) Io)) O (e5.trans (u.trans (g.trans (m.trans (z.trans a0))))) ⟨O,(CJ _),Z⟩
def LQ (hs:St S L h) {b:Value}{i:(List BC)}(k:Sl S h CM b i) {c:Value}{j:(List BC)}(m:Sl S h CM c j) {r:Bool}(E:EC N i j=some r):
 Ct prog 141 #[b,c] S h (λv S' h'=>v= .bool r∧St S' (L) h'):=by
 refine BO (l:=[b,c]) 66 func141 O ntmps141 O λB=>?_
 rw[EC] at E
 refine AE (AJ O (kp [0,1] O) (AC (AC (WF.rc (.inl O) hs (AA O ?_)))))
 obtain⟨y1,ax,E⟩:=bd E
 refine BL O O O Pi O (λh' o=>GD (St.all h') (k.mono' (o.all hs.1)) ax) (BT O (AA O ?_))
 obtain⟨b4,t,E⟩:=bd E
 refine AO 4 20 (.bool b4) ?_ ?_
 ·cases c3:(!y1)
  ·have t:=GY c3 t
   refine AB O (AA O (AB O ?_))
   obtain⟨y5,ay,t⟩:=bd t
   refine BL O O O Pi O (λh' o=>GD (St.all h') (m.mono' (o.all hs.1)) ay) (AB O (BT O (AI O ?_)))
   cases t
   exact AN O
  have t:=GX c3 t
  cases t
  exact AX O O
 refine Bu (kp [20,0,1] O) λh7 ac V=>AW O E (λaz E=>?_) (λaz E=>?_)
 ·refine AE (AJ O (kp [4] O) (WF.ret (λp s d g=>?_)))
  cases E
  exact EU d g O O V ⟨O,ac⟩
 refine AQ (AC (AE (AA O ?_)))
 have ad:=k.mono' V
 refine BJ O ad He O λbe=>AA O (AL (kp [23,22,21,0,1] O) (BG (λa w=>IV B S h7 (66,[]) a w [(0,b),(1,c)] (L) λ_ _=>C0 N i j=some r) ?_ ?_))
 ·refine Bt (λn1=>λa w=>∃(z:Int),IV B S h7 (66,[]) a w [(22,vI (↑i.length:Int)),(21,b),(0,b),(1,c),(23,vI z)] (L) λ_ _=>AD z∧DA N i j (C0 N i j) n1 z=some r) N ?_ ?_ ?_
  ·intro p s d g
   exact⟨0,_,_,d.sub (kp [22,21,0,1,23] O),g,ac,(Cm.refl S h7),(iq (n:=0) O),E⟩
  ·rintro p s ⟨_,_,_,_,_,_,_,_,E⟩
   rw[DA] at E;cases E
  rintro n1 p s ⟨z,bf,bg,d,g,A,C,bh,E⟩
  refine A8 ?_ d g
  clear d g s p
  rw[DA] at E
  refine AE (BE O (AL (kp [24,22,21,0,1,23] O) (AC (AW O E (λa0 E=>?_) (λa0 E=>?_)))))
  ·refine AQ (AC (BW (WF.sl (A5 2 ?_))))
   obtain⟨ae,af,E⟩:=bd E
   refine B6 O O (ad.mono' C) He af O λbi a1=>BP BX A.1 O a1 OM (λe=>by cases e) O λbj a2=>A6 (CX Ti O A λbk bl ag M=>?_)
   obtain⟨rfl,⟨a3,bm⟩⟩:=CM.ex (a2.mono M)
   refine BU (vs:=[vI ae.G,vI ae.L]) O O O O OM O ag .head O λbn D W=>AS (kp [6,22,21,0,1,23] O) (AC (WF.rc (.inl O) D (AA O (AF IT O (AT Bs D O mh O AZ O ?_)))))
   obtain⟨bo,ah,E⟩:=bd E
   refine Bz O O O TY O (λh' o=>Jb (St.all h') ((m.mono' (V.trans (C.trans (M.trans W)))).mono' (o.all D.1)) a3 ah) λa4=>?_
   have bp:=a4
   refine AA O (De O (De O (A4 O (A4 O (Bu (kp [7,6,22,21,0,1,23] O) λbq F ai=>AE (AF Hu O (AT BX F O mh O AZ O (AA O (CN O (AL (kp [37,22,21,0,1,23] O) (AW O E (λa5 E=>?_) (λa5 E=>?_))))))))))))
   ·refine AE (AJ O (kp [4] O) (WF.ret (λp s d g=>?_)))
    have aj:=F.drop .head
    cases E
    exact EU d g O O (V.trans (C.trans (M.trans (W.trans ai)))) ⟨O,aj⟩
   refine AQ (B0 (CL (.inl O) (BD O (AA O (AL (kp [23,22,21,0,1] O) (WF.nil (λp s d g=>?_)))))))
   have ak:=F.drop .head
   exact⟨(B8 (z+1)),_,_,d.sub (kp [22,21,0,1,23] O),g,ak,(C.trans (M.trans (W.trans ai))),(CJ _),E⟩
  refine WF.exit O (λp s d g=>?_)
  exact⟨_,_,d.sub (kp [0,1] O),g,A,C,E⟩
 rintro p s ⟨X,Y,d,g,am,Q,E⟩
 refine A8 ?_ d g
 clear d g s p
 rw[C0] at E
 refine AC (AE (AA O ?_))
 have an:=m.mono' (V.trans Q)
 refine BJ O an He O λbr=>AA O (AL (kp [41,40,39,0] O) (BG (λa w=>IV B X Y (66,[]) a w [] (L) λ_ _=>Ep N=some r) ?_ ?_))
 ·refine Bt (λn3=>λa w=>∃(H:Int),IV B X Y (66,[]) a w [(40,vI (↑j.length:Int)),(39,c),(0,b),(41,vI H)] (L) λ_ _=>AD H∧DW N i j (Ep N) n3 H=some r) N ?_ ?_ ?_
  ·intro p s d g
   exact⟨0,_,_,d.sub (kp [40,39,0,41] O),g,am,(Cm.refl X Y),(iq (n:=0) O),E⟩
  ·rintro p s ⟨_,_,_,_,_,_,_,_,E⟩
   rw[DW] at E;cases E
  rintro n3 p s ⟨H,bs,bt,d,g,I,J,bu,E⟩
  refine A8 ?_ d g
  clear d g s p
  rw[DW] at E
  refine AE (BE O (AL (kp [42,40,39,0,41] O) (AC (AW O E (λa6 E=>?_) (λa6 E=>?_)))))
  ·refine AQ (AC (BW (WF.sl (A5 2 ?_))))
   obtain⟨u,ao,E⟩:=bd E
   refine B6 O O (an.mono' J) He ao O λbv a7=>BP BX I.1 O a7 OM (λe=>by cases e) O λbw a8=>A6 (CX Ti O I λbx bz ap U=>?_)
   obtain⟨rfl,⟨a9,b0⟩⟩:=CM.ex (a8.mono U)
   refine BU (vs:=[vI u.G,vI u.L]) O O O O OM O ap .head O λb1 K Z=>AS (kp [10,40,39,0,41] O) (AC (WF.rc (.inl O) K (AA O (AF IT O (AT Bs K O mh O AZ O ?_)))))
   obtain⟨x,aq,E⟩:=bd E
   refine Bz O O O TY O (λh' o=>Jb (St.all h') ((k.mono' (V.trans (Q.trans (J.trans (U.trans Z))))).mono' (o.all K.1)) a9 aq) λba=>?_
   have b2:=ba
   refine AA O (De O (De O (A4 O (A4 O (Bu (kp [12,11,10,40,39,0,41] O) λb3 y ar=>AE (AA O (AF Hu O (AT BX y O mh O AZ O (CN O (AA O (AO 8 64 (.bool ((decide (u.L<x.1))||((decide (x.1=u.L))&&x.2))) ?_ ?_)))))))))))
   ·cases b5:(decide (u.L<x.1))
    ·refine AB O (AA O (AB O (AF Hu O (AB O (AT BX y O mh O AZ O (AB O (CR O (AB O (AA O (AO 2 63 (.bool ((decide (x.1=u.L))&&x.2)) ?_ ?_))))))))))
     ·cases b6:(decide (x.1=u.L))
      ·exact AX O O
      exact AB O (AA O (AB O (AI O (AN O))))
     exact AI O (AN O)
    exact AX O O
   refine AL (kp [64,40,39,0,41] O) (AW O E (λbb E=>?_) (λbb E=>?_))
   ·refine AE (AJ O (kp [4] O) (WF.ret (λp s d g=>?_)))
    have au:=y.drop .head
    cases E
    exact EU d g O O (V.trans (Q.trans (J.trans (U.trans (Z.trans ar))))) ⟨O,au⟩
   refine AQ (B0 (CL (.inl O) (BD O (AA O (AL (kp [41,40,39,0] O) (WF.nil (λp s d g=>?_)))))))
   have av:=y.drop .head
   exact⟨(B8 (H+1)),_,_,d.sub (kp [40,39,0,41] O),g,av,(J.trans (U.trans (Z.trans ar))),(CJ _),E⟩
  refine WF.exit O (λp s d g=>?_)
  exact⟨_,_,d.sub Kv,g,I,J,E⟩
 rintro p s ⟨b7,bc,d,g,ab,aw,E⟩
 refine A8 ?_ d g
 clear d g s p
 rw[Ep] at E
 refine AE (AJ O (kp [4] O) (WF.ret (λp s d g=>?_)))
 cases E
 exact EU d g O O (V.trans (Q.trans aw)) ⟨O,ab⟩
def Li (hs:St S L h) {M:Value}{d:A7}(ad:Rd S h CI M d) {r:Bool}(E:Ev N d=some r):
 Ct prog 93 #[M] S h (λv S' h'=>v= .bool r∧St S' (L) h'):=by
 refine BO (l:=[M]) 152 func93 O ntmps93 O λB=>?_
 rw[Ev] at E
 refine WF.sl (BM O ad (λe=>by cases e) O hs λq1 S2 h3 c e5 J=>A5 1 (A4 O (A6 (AS (kp [1] O) (AC (AE (AV O J A7.f_Kind E6 O λq7 k8=>AY BX c.1 O k8 AZ O λr9=>AL (kp [4,1] O) (BW (AE (CR O (AJ O (kp [5,4,1] O) (AW O E (λdh E=>?_) (λdh E=>?_)))))))))))))
 ·refine AC (WF.rc (.inl O) c (AV O J Jt L3 O λfo di=>BR Bs c.1 O di Hs O λfp dj=>?_))
  obtain⟨dk,be,E⟩:=bd E
  refine BL O O O Pi O (λh' o=>GD (St.all h') (dj.mono' (o.all c.1)) be) (AA O ?_)
  obtain⟨bf,x,E⟩:=bd E
  refine AO 5 15 (.bool bf) ?_ ?_
  ·cases bg:dk
   ·have x:=GY bg x
    cases x
    exact AX O O
   have x:=GX bg x
   refine AB O (AV O J G2 IM O λfq dl=>AB O (AV O dl KJ.f_Lo L5 O λfr dm=>AB O (BR Bs c.1 O dm Hs O λfs dn=>AB O ?_)))
   obtain⟨ft,bh,x⟩:=bd x
   refine BL O O O Pi O (λh' o=>GD (St.all h') (dn.mono' (o.all c.1)) bh) (AI O ?_)
   cases x
   exact AN O
  refine AA O ?_
  obtain⟨bi,y,E⟩:=bd E
  refine AO 5 21 (.bool bi) ?_ ?_
  ·cases bj:bf
   ·have y:=GY bj y
    cases y
    exact AX O O
   have y:=GX bj y
   refine AB O (AV O J G2 IM O λfu dp=>AB O (AV O dp KJ.f_Hi L4 O λfv dq=>AB O (BR Bs c.1 O dq Hs O λfw dr=>AB O ?_)))
   obtain⟨fx,bk,y⟩:=bd y
   refine BL O O O Pi O (λh' o=>GD (St.all h') (dr.mono' (o.all c.1)) bk) (AI O ?_)
   cases y
   exact AN O
  refine AA O ?_
  obtain⟨bl,z,E⟩:=bd E
  refine AO 7 29 (.bool bl) ?_ ?_
  ·cases bm:bi
   ·have z:=GY bm z
    cases z
    exact AX O O
   have z:=GX bm z
   refine AB O (AV O J G2 IM O λfy ds=>AB O (AV O ds KJ.f_Lo L5 O λfz dt=>AB O (BR Bs c.1 O dt Hs O λf0 du=>AB O (AV O J Jt L3 O λf1 dv=>AB O (BR Bs c.1 O dv Hs O λf2 dw=>AB O ?_)))))
   obtain⟨f3,bn,z⟩:=bd z
   refine BL O O O Wu O (λh' o=>LQ (St.all h') (du.mono' (o.all c.1)) (dw.mono' (o.all c.1)) bn) (AI O ?_)
   cases z
   exact AN O
  refine AA O ?_
  obtain⟨bo,A,E⟩:=bd E
  refine AO 7 37 (.bool bo) ?_ ?_
  ·cases bp:bl
   ·have A:=GY bp A
    cases A
    exact AX O O
   have A:=GX bp A
   refine AB O (AV O J Jt L3 O λf4 dx=>AB O (BR Bs c.1 O dx Hs O λf5 dy=>AB O (AV O J G2 IM O λf6 dz=>AB O (AV O dz KJ.f_Hi L4 O λf7 d0=>AB O (BR Bs c.1 O d0 Hs O λf8 d1=>AB O ?_)))))
   obtain⟨f9,bq,A⟩:=bd A
   refine BL O O O Wu O (λh' o=>LQ (St.all h') (dy.mono' (o.all c.1)) (d1.mono' (o.all c.1)) bq) (AI O ?_)
   cases A
   exact AN O
  refine AA O ?_
  obtain⟨br,D,E⟩:=bd E
  refine AO 4 42 (.bool br) ?_ ?_
  ·cases bs:bo
   ·have D:=GY bs D
    cases D
    exact AX O O
   have D:=GX bs D
   refine AB O (AV O J DD Hg O λga d2=>AB O (AY Bs c.1 O d2 AZ O λd3=>AB O ?_))
   obtain⟨gb,bt,D⟩:=bd D
   refine BL O O O HV O (λh' o=>CH (St.all h') d3 (iq (n:=0) O) (iq (n:=64) O) bt) (AI O ?_)
   cases D
   exact AN O
  refine AA O ?_
  obtain⟨bu,F,E⟩:=bd E
  refine AO 6 49 (.bool bu) ?_ ?_
  ·cases bv:br
   ·have F:=GY bv F
    cases F
    exact AX O O
   have F:=GX bv F
   refine AB O (AV O J G6 J2 O λgc d4=>AB O (AY Bs c.1 O d4 AZ O λd5=>AB O (AV O J DD Hg O λge d6=>AB O (AY Bs c.1 O d6 AZ O λd7=>AB O ?_))))
   obtain⟨gf,bw,F⟩:=bd F
   refine BL O O O HV O (λh' o=>CH (St.all h') d5 (iq (n:=0) O) d7 bw) (AI O ?_)
   cases F
   exact AN O
  refine AA O ?_
  obtain⟨bx,G,E⟩:=bd E
  refine AO 4 54 (.bool bx) ?_ ?_
  ·cases bz:bu
   ·have G:=GY bz G
    cases G
    exact AX O O
   have G:=GX bz G
   refine AB O (AV O J LI Pa O λgg d8=>AB O (AY Bs c.1 O d8 AZ O λd9=>AB O ?_))
   obtain⟨gh,b0,G⟩:=bd G
   refine BL O O O I3 O (λh' o=>CS (St.all h') d9 b0) (AI O ?_)
   cases G
   exact AN O
  refine AA O ?_
  obtain⟨au,H,E⟩:=bd E
  refine AO 6 61 (.bool au) ?_ ?_
  ·cases b1:bx
   ·have H:=GY b1 H
    cases H
    exact AX O O
   have H:=GX b1 H
   refine AB O (AV O J Hn I9 O λgi ea=>AB O (AY Bs c.1 O ea AZ O λeb=>AB O (AV O J Gr Il O λgj ec=>AB O (AY Bs c.1 O ec AZ O λed=>AB O ?_))))
   obtain⟨gk,b2,H⟩:=bd H
   refine BL O O O Wk O (λh' o=>Ie (St.all h') eb ed b2) (AI O ?_)
   cases H
   exact AN O
  refine AA O (AO 9 71 (.bool (au&&((decide (d.E≠(-1)))||(decide (d.Y=0))))) ?_ ?_)
  ·cases gl:au
   ·exact AX O O
   refine AB O (AV O J A7.f_To Gb O λee b3=>AB O (AY Bs c.1 O b3 AZ O λef=>AB O (Cq O (AB O (AA O (AO 4 70 (.bool ((decide (d.E≠(-1)))||(decide (d.Y=0)))) ?_ ?_))))))
   ·cases eg:(decide (d.E≠(-1)))
    ·exact AB O (AV O J Gr Il O λeh b4=>AB O (AY Bs c.1 O b4 AZ O λei=>AB O (CR O (AB O (AI O (AN O))))))
    exact AX O O
   exact AI O (AN O)
  refine A4 O (Bu (kp [2] O) λej av b5=>WF.ret (λaa ww U V=>?_))
  cases E
  exact EU U V O O (e5.trans b5) ⟨O,av⟩
 refine AC (AE (CR O (AJ O (kp [72,4,1] O) (HW (λa w=>∃(X:Bool),IV B S2 h3 (152,[]) a w [(4,vI d.C),(1,q1),(72,.bool X)] (L) λ_ _=>Dd N d X=some r) ?_ ?_))))
 ·refine AW O E (λb6 E=>?_) (λb6 E=>?_)
  ·refine AQ (WF.nil (λaa ww U V=>?_))
   exact⟨(decide (d.C=1)),_,_,U.sub (kp [4,1,72] O),V,c,(Cm.refl S2 h3),E⟩
  refine CL (.inl O) (CR O (AJ O (kp [72,4,1] O) (WF.nil (λaa ww U V=>?_))))
  exact⟨(decide (d.C=5)),_,_,U.sub (kp [4,1,72] O),V,c,(Cm.refl S2 h3),E⟩
 rintro aa ww ⟨X,ek,el,U,V,b,I,E⟩
 refine A8 ?_ U V
 clear U V ww aa
 rw[Dd] at E
 refine AW O E (λb7 E=>?_) (λb7 E=>?_)
 ·refine AC (WF.rc (.inl O) b ?_)
  have Z:=J.mono I
  refine AV O Z A7.f_Crest PZ O λem b8=>AY Bs b.1 O b8 AZ O λb9=>?_
  obtain⟨ca,aw,E⟩:=bd E
  refine BL O O O I3 O (λh' o=>CS (St.all h') b9 aw) (AA O ?_)
  obtain⟨ae,g,E⟩:=bd E
  refine AO 4 82 (.bool ae) ?_ ?_
  ·cases af:ca
   ·have g:=GY af g
    cases g
    exact AX O O
   have g:=GX af g
   refine AB O (AV O Z A7.f_Num HL O λen cb=>AB O (AY Bs b.1 O cb AZ O λcc=>AB O ?_))
   obtain⟨eo,ax,g⟩:=bd g
   refine BL O O O I3 O (λh' o=>CS (St.all h') cc ax) (AI O ?_)
   cases g
   exact AN O
  refine AA O ?_
  obtain⟨cd,i,E⟩:=bd E
  refine AO 4 87 (.bool cd) ?_ ?_
  ·cases ag:ae
   ·have i:=GY ag i
    cases i
    exact AX O O
   have i:=GX ag i
   refine AB O (AV O Z A7.f_Den IE O λep ce=>AB O (AY Bs b.1 O ce AZ O λcf=>AB O ?_))
   obtain⟨eq,ay,i⟩:=bd i
   refine BL O O O HV O (λh' o=>CH (St.all h') cf (iq (n:=1) O) (iq (n:=1125899906842624) O) ay) (AI O ?_)
   cases i
   exact AN O
  refine A4 O (Bu (kp [2] O) λer az cg=>WF.ret (λaa ww U V=>?_))
  cases E
  exact EU U V O O (e5.trans (I.trans cg)) ⟨O,az⟩
 refine AE (CR O (AJ O (kp [88,4,1] O) (AW O E (λch E=>?_) (λch E=>?_))))
 ·refine AC (WF.rc (.inl O) b ?_)
  have W:=J.mono I
  refine AV O W A7.f_Num HL O λes ci=>AY Bs b.1 O ci AZ O λcj=>?_
  obtain⟨ck,a0,E⟩:=bd E
  refine BL O O O I3 O (λh' o=>CS (St.all h') cj a0) (AA O ?_)
  obtain⟨ah,j,E⟩:=bd E
  refine AO 4 97 (.bool ah) ?_ ?_
  ·cases ai:ck
   ·have j:=GY ai j
    cases j
    exact AX O O
   have j:=GX ai j
   refine AB O (AV O W DD Hg O λet cl=>AB O (AY Bs b.1 O cl AZ O λcm=>AB O ?_))
   obtain⟨eu,a1,j⟩:=bd j
   refine BL O O O HV O (λh' o=>CH (St.all h') cm (iq (n:=1) O) (iq (n:=64) O) a1) (AI O ?_)
   cases j
   exact AN O
  refine AA O ?_
  obtain⟨cn,k,E⟩:=bd E
  refine AO 6 104 (.bool cn) ?_ ?_
  ·cases aj:ah
   ·have k:=GY aj k
    cases k
    exact AX O O
   have k:=GX aj k
   refine AB O (AV O W G6 J2 O λev co=>AB O (AY Bs b.1 O co AZ O λcp=>AB O (AV O W DD Hg O λew cq=>AB O (AY Bs b.1 O cq AZ O λcr=>AB O ?_))))
   obtain⟨ex,a2,k⟩:=bd k
   refine BL O O O HV O (λh' o=>CH (St.all h') cp (iq (n:=0) O) cr a2) (AI O ?_)
   cases k
   exact AN O
  refine A4 O (Bu (kp [2] O) λey a3 cs=>WF.ret (λaa ww U V=>?_))
  cases E
  exact EU U V O O (e5.trans (I.trans cs)) ⟨O,a3⟩
 refine AE (CR O (AJ O (kp [105,1] O) (AW O E (λct E=>?_) (λct E=>?_))))
 ·refine AC (WF.rc (.inl O) b ?_)
  have K:=J.mono I
  refine AV O K A7.f_Num HL O λez cu=>AY Bs b.1 O cu AZ O λcv=>?_
  obtain⟨cw,a4,E⟩:=bd E
  refine BL O O O I3 O (λh' o=>CS (St.all h') cv a4) (AA O ?_)
  obtain⟨ak,m,E⟩:=bd E
  refine AO 4 114 (.bool ak) ?_ ?_
  ·cases al:cw
   ·have m:=GY al m
    cases m
    exact AX O O
   have m:=GX al m
   refine AB O (AV O K A7.f_Den IE O λe0 cx=>AB O (AY Bs b.1 O cx AZ O λcy=>AB O ?_))
   obtain⟨e1,a5,m⟩:=bd m
   refine BL O O O HV O (λh' o=>CH (St.all h') cy (iq (n:=1) O) (iq (n:=1125899906842624) O) a5) (AI O ?_)
   cases m
   exact AN O
  refine AA O ?_
  obtain⟨am,p,E⟩:=bd E
  refine AO 4 119 (.bool am) ?_ ?_
  ·cases an:ak
   ·have p:=GY an p
    cases p
    exact AX O O
   have p:=GX an p
   refine AB O (AV O K JN MX O λe2 cz=>AB O (AY Bs b.1 O cz AZ O λc0=>AB O ?_))
   obtain⟨e3,a6,p⟩:=bd p
   refine BL O O O I3 O (λh' o=>CS (St.all h') c0 a6) (AI O ?_)
   cases p
   exact AN O
  refine AA O ?_
  obtain⟨ab,s,E⟩:=bd E
  refine AO 4 124 (.bool ab) ?_ ?_
  ·cases ao:am
   ·have s:=GY ao s
    cases s
    exact AX O O
   have s:=GX ao s
   refine AB O (AV O K G7 JA O λe4 c1=>AB O (AY Bs b.1 O c1 AZ O λc2=>AB O ?_))
   obtain⟨e6,a7,s⟩:=bd s
   refine BL O O O I3 O (λh' o=>CS (St.all h') c2 a7) (AI O ?_)
   cases s
   exact AN O
  refine AA O (AO 6 131 (.bool (ab&&(decide (d.Ae<d.Ak)))) ?_ ?_)
  ·cases e7:ab
   ·exact AX O O
   exact AB O (AV O K G7 JA O λe8 c3=>AB O (AY Bs b.1 O c3 AZ O λe9=>AB O (AV O K JN MX O λfb c4=>AB O (AY Bs b.1 O c4 AZ O λfc=>AB O (BE O (AI O (AN O)))))))
  refine A4 O (Bu (kp [2] O) λfd a8 c5=>WF.ret (λaa ww U V=>?_))
  cases E
  exact EU U V O O (e5.trans (I.trans c5)) ⟨O,a8⟩
 refine AQ (B0 (AC (WF.rc (.inl O) b ?_)))
 have Q:=J.mono I
 refine AV O Q A7.f_Num HL O λfe c6=>AY Bs b.1 O c6 AZ O λc7=>?_
 obtain⟨c8,a9,E⟩:=bd E
 refine BL O O O I3 O (λh' o=>CS (St.all h') c7 a9) (AA O ?_)
 obtain⟨ap,t,E⟩:=bd E
 refine AO 4 139 (.bool ap) ?_ ?_
 ·cases aq:c8
  ·have t:=GY aq t
   cases t
   exact AX O O
  have t:=GX aq t
  refine AB O (AV O Q A7.f_Den IE O λff c9=>AB O (AY Bs b.1 O c9 AZ O λda=>AB O ?_))
  obtain⟨fg,ba,t⟩:=bd t
  refine BL O O O HV O (λh' o=>CH (St.all h') da (iq (n:=1) O) (iq (n:=1125899906842624) O) ba) (AI O ?_)
  cases t
  exact AN O
 refine AA O ?_
 obtain⟨ac,u,E⟩:=bd E
 refine AO 6 146 (.bool ac) ?_ ?_
 ·cases ar:ap
  ·have u:=GY ar u
   cases u
   exact AX O O
  have u:=GX ar u
  refine AB O (AV O Q Hn I9 O λfh db=>AB O (AY Bs b.1 O db AZ O λdc=>AB O (AV O Q Gr Il O λfi dd=>AB O (AY Bs b.1 O dd AZ O λde=>AB O ?_))))
  obtain⟨fj,bb,u⟩:=bd u
  refine BL O O O Wk O (λh' o=>Ie (St.all h') dc de bb) (AI O ?_)
  cases u
  exact AN O
 refine AA O (AO 4 151 (.bool (ac&&(decide (d.E≠(-1))))) ?_ ?_)
 ·cases fk:ac
  ·exact AX O O
  exact AB O (AV O Q A7.f_To Gb O λfl df=>AB O (AY Bs b.1 O df AZ O λfm=>AB O (Cq O (AI O (AN O)))))
 refine A4 O (Bu (kp [2] O) λfn bc dg=>WF.ret (λaa ww U V=>?_))
 cases E
 exact EU U V O O (e5.trans (I.trans dg)) ⟨O,bc⟩
end Go.Proofs.YtibidnaedddfdaaGreat
