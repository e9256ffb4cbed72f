import Derived.Test.YtblcgjadhemlbaaGreatRWalk4
namespace Go.Proofs.YtblcgjadhemlbaaGreat
open Go.RowKit
set_option linter.unusedVariables false
set_option linter.unusedSimpArgs false
set_option maxRecDepth 10000
set_option maxHeartbeats 2000000
variable {N:Nat}{S:Nat→Prop}{L:List HP}{h:Aw}
theorem Md (hs:St S L h) {s:Value}{d:AX}(I:Rd S h B1 s d) {r:Bool}(E:Gy N d=some r):
 CL Tryz.prog 53 #[s] S h (λv S' h'=>v= .bool r∧St S' (L) h'):=by
 refine BG (l:=[s]) 64 Tryz.func53 O Tryz.ntmps53 O λB=>?_
 rw[Gy] at E
 refine WF.sl (B4 O I (λe=>by cases e) O hs λq1 S2 h3 ai e5 k6=>AG 1 (AY O (AF (AZ (kp [1] O) (AC (AI (Ae O k6 Im Nz O λq7 k8=>Ao A9 ai.1 O k8 SF O λv9 aj=>An O aj Pc O λb7=>AA O (AN (kp [10,9,8,1] O) (Am (λa w=>IV B S2 h3 (64,[]) a w [(1,q1)] (L) λ_ _=>DM N d=some r) ?_ ?_)))))))))
 ·refine A5 (λn1=>λa w=>∃(y:Int),IV B S2 h3 (64,[]) a w [(9,vI (↑d.Towns.length:Int)),(8,v9),(1,q1),(10,vI y)] (L) λ_ _=>AH y∧DL N d (DM N d) n1 y=some r) N ?_ ?_ ?_
  ·intro t u b c
   exact⟨0,_,_,b.sub (kp [9,8,1,10] O),c,ai,(CA.refl S2 h3),(iq (n:=0) O),E⟩
  ·rintro t u ⟨_,_,_,_,_,_,_,_,E⟩
   rw[DL] at E;cases E
  rintro n1 t u ⟨y,b8,b9,b,c,z,A,ca,E⟩
  refine Ac ?_ b c
  clear b c u t
  rw[DL] at E
  refine AI (Ar O (AN (kp [11,9,8,1,10] O) (AC (AW O E (λbe E=>?_) (λbe E=>?_)))))
  ·refine AQ (AC (BB (WF.sl (AG 2 ?_))))
   obtain⟨x,ak,E⟩:=bd E
   refine BE O O (aj.mono' A) Pc ak O λcb bf=>B8 A9 z.1 O bf Q8 (λe=>by cases e) O λcc bg=>AF (Cp VR O z λcd ce am J=>?_)
   obtain⟨rfl,⟨cf,bh,bi,bj,bk,bl,bm⟩⟩:=GT.ex (bg.mono J)
   refine Du (vs:=[.string x.Name,vI x.Place,vI x.Flood,vI x.Lead,vI x.People,vI x.Watch,vI x.Quorum]) O O O O Q8 O am .head O λcg g X=>AZ (kp [4,9,8,1,10] O) (AC (Bq (.inl O) g (AD Wn O (AS Bd g O mh O Ag O (Ae O (k6.mono (A.trans (J.trans X))) BP C1 O λch bn=>Ao Bd g.1 O bn F7 O λci bo=>An O bo FA O λbp=>?_)))))
   obtain⟨bq,an,E⟩:=bd E
   refine A6 O O O P2 O (λh' o=>GS (St.all h') bh (Jl bp) an) (BY O (AA O ?_))
   obtain⟨ao,i,E⟩:=bd E
   refine AV 5 26 (.bool ao) ?_ ?_
   ·cases ap:(!bq)
    ·have i:=F5 ap i
     refine AB O (AD Wm O (AB O (AS Bd g O mh O Ag O (AB O ?_))))
     obtain⟨cj,aq,i⟩:=bd i
     refine A6 O O O Jm O (λh' o=>B3 (St.all h') bi aq) (AB O (BY O (AJ O ?_)))
     cases i
     exact AU O
    have i:=Fy ap i
    cases i
    exact Aa O O
   refine AA O ?_
   obtain⟨ar,j,E⟩:=bd E
   refine AV 5 32 (.bool ar) ?_ ?_
   ·cases au:ao
    ·have j:=F5 au j
     refine AB O (AD Wl O (AB O (AS Bd g O mh O Ag O (AB O ?_))))
     obtain⟨ck,av,j⟩:=bd j
     refine A6 O O O Hu O (λh' o=>Bs (St.all h') bj (iq (n:=0) O) (iq (n:=24) O) av) (AB O (BY O (AJ O ?_)))
     cases j
     exact AU O
    have j:=Fy au j
    cases j
    exact Aa O O
   refine AA O ?_
   obtain⟨aw,k,E⟩:=bd E
   refine AV 5 38 (.bool aw) ?_ ?_
   ·cases ax:ar
    ·have k:=F5 ax k
     refine AB O (AD Wk O (AB O (AS Bd g O mh O Ag O (AB O ?_))))
     obtain⟨cl,ay,k⟩:=bd k
     refine A6 O O O Hu O (λh' o=>Bs (St.all h') bk (iq (n:=0) O) (iq (n:=1073741824) O) ay) (AB O (BY O (AJ O ?_)))
     cases k
     exact AU O
    have k:=Fy ax k
    cases k
    exact Aa O O
   refine AA O ?_
   obtain⟨az,m,E⟩:=bd E
   refine AV 5 44 (.bool az) ?_ ?_
   ·cases a0:aw
    ·have m:=F5 a0 m
     refine AB O (AD Wj O (AB O (AS Bd g O mh O Ag O (AB O ?_))))
     obtain⟨cm,a1,m⟩:=bd m
     refine A6 O O O Jm O (λh' o=>B3 (St.all h') bl a1) (AB O (BY O (AJ O ?_)))
     cases m
     exact AU O
    have m:=Fy a0 m
    cases m
    exact Aa O O
   refine AA O ?_
   obtain⟨br,p,E⟩:=bd E
   refine AV 5 50 (.bool br) ?_ ?_
   ·cases a2:az
    ·have p:=F5 a2 p
     refine AB O (AD Wi O (AB O (AS Bd g O mh O Ag O (AB O ?_))))
     obtain⟨cn,a3,p⟩:=bd p
     refine A6 O O O Hu O (λh' o=>Bs (St.all h') bm (iq (n:=0) O) (iq (n:=128) O) a3) (AB O (BY O (AJ O ?_)))
     cases p
     exact AU O
    have p:=Fy a2 p
    cases p
    exact Aa O O
   refine BM (kp [50,9,8,1,10] O) λco M a4=>AW O E (λbs E=>?_) (λbs E=>?_)
   ·refine AI (AK O (kp [2] O) (Ad (λt u b c=>?_)))
    have a5:=M.drop .head
    cases E
    exact Dx b c O O (e5.trans (A.trans (J.trans (X.trans a4)))) ⟨O,a5⟩
   refine AQ (BO (BZ (.inl O) (Ai O (AA O (AN (kp [10,9,8,1] O) (WF.nil (λt u b c=>?_)))))))
   have a6:=M.drop .head
   exact⟨(BD (y+1)),_,_,b.sub (kp [9,8,1,10] O),c,a6,(A.trans (J.trans (X.trans a4))),(BK _),E⟩
  refine BC O (λt u b c=>?_)
  exact⟨_,_,b.sub (kp [1] O),c,z,A,E⟩
 rintro t u ⟨Y,Z,b,c,Q,ab,E⟩
 refine Ac ?_ b c
 clear b c u t
 rw[DM] at E
 refine AC (AI (Ae O (k6.mono ab) IU PQ O λcp bt=>Ao A9 Q.1 O bt T0 O λbu a7=>An O a7 Qc O λcq=>AA O (AN (kp [55,54,53] O) (Am (λa w=>IV B Y Z (64,[]) a w [] (L) λ_ _=>Er N=some r) ?_ ?_))))
 ·refine A5 (λn3=>λa w=>∃(C:Int),IV B Y Z (64,[]) a w [(54,vI (↑d.Shelters.length:Int)),(53,bu),(55,vI C)] (L) λ_ _=>AH C∧DK N d (Er N) n3 C=some r) N ?_ ?_ ?_
  ·intro t u b c
   exact⟨0,_,_,b.sub (kp [54,53,55] O),c,Q,(CA.refl Y Z),(iq (n:=0) O),E⟩
  ·rintro t u ⟨_,_,_,_,_,_,_,_,E⟩
   rw[DK] at E;cases E
  rintro n3 t u ⟨C,cr,cs,b,c,D,K,ct,E⟩
  refine Ac ?_ b c
  clear b c u t
  rw[DK] at E
  refine AI (Ar O (AN (kp [56,54,53,55] O) (AC (AW O E (λbv E=>?_) (λbv E=>?_)))))
  ·refine AQ (AC (BB (WF.sl (AG 2 ?_))))
   obtain⟨U,ac,E⟩:=bd E
   refine BE O O (a7.mono' K) Qc ac O λbw a8=>B8 A9 D.1 O a8 Q7 (λe=>by cases e) O λbx a9=>AF (Cp VQ O D λbz b0 ad F=>?_)
   obtain⟨rfl,⟨b1,ba⟩⟩:=Cz.ex (a9.mono F)
   refine Du (vs:=[.string U.Name,vI U.Room]) O O O O Q7 O ad .head O λb2 G V=>AZ (kp [6,54,53,55] O) (AC (Bq (.inl O) G (AD Wg O (AS Bd G O mh O Ag O ?_))))
   obtain⟨b3,ae,E⟩:=bd E
   refine A6 O O O Hu O (λh' o=>Bs (St.all h') ba (iq (n:=0) O) (iq (n:=1073741824) O) ae) (BY O (BM (kp [62,54,53,55] O) λb4 H W=>AW O E (λbb E=>?_) (λbb E=>?_)))
   ·refine AI (AK O (kp [2] O) (Ad (λt u b c=>?_)))
    have af:=H.drop .head
    cases E
    exact Dx b c O O (e5.trans (ab.trans (K.trans (F.trans (V.trans W))))) ⟨O,af⟩
   refine AQ (BO (BZ (.inl O) (Ai O (AA O (AN (kp [55,54,53] O) (WF.nil (λt u b c=>?_)))))))
   have ag:=H.drop .head
   exact⟨(BD (C+1)),_,_,b.sub (kp [54,53,55] O),c,ag,(K.trans (F.trans (V.trans W))),(BK _),E⟩
  refine BC O (λt u b c=>?_)
  exact⟨_,_,b.sub Oy,c,D,K,E⟩
 rintro t u ⟨b5,b6,b,c,ah,bc,E⟩
 refine Ac ?_ b c
 clear b c u t
 rw[Er] at E
 refine AI (AK O (kp [2] O) (Ad (λt u b c=>?_)))
 cases E
 exact Dx b c O O (e5.trans (ab.trans bc)) ⟨O,ah⟩
theorem MH (hs:St S L h) {g:Value}{b:AX}(G:Rd S h B1 g b) {r:Bool}(E:GZ N b=some r):
 CL Tryz.prog 54 #[g] S h (λv S' h'=>v= .bool r∧St S' (L) h'):=by
 refine BG (l:=[g]) 47 Tryz.func54 O Tryz.ntmps54 O λB=>?_
 rw[GZ] at E
 refine WF.sl (B4 O G (λe=>by cases e) O hs λq1 S2 h3 M e5 k6=>AG 1 (AY O (AF (AZ (kp [1] O) (AC (AI (Ae O k6 KL Rl O λq7 k8=>Ao A9 M.1 O k8 Va O λv9 Q=>An O Q SQ O λbc=>AA O (AN (kp [9,8,7,1] O) (Am (λa w=>IV B S2 h3 (47,[]) a w [] (L) λ_ _=>Eb N=some r) ?_ ?_)))))))))
 ·refine A5 (λn1=>λa w=>∃(u:Int),IV B S2 h3 (47,[]) a w [(8,vI (↑b.Gauges.length:Int)),(7,v9),(1,q1),(9,vI u)] (L) λ_ _=>AH u∧DB N b (Eb N) n1 u=some r) N ?_ ?_ ?_
  ·intro D F i j
   exact⟨0,_,_,i.sub (kp [8,7,1,9] O),j,M,(CA.refl S2 h3),(iq (n:=0) O),E⟩
  ·rintro D F ⟨_,_,_,_,_,_,_,_,E⟩
   rw[DB] at E;cases E
  rintro n1 D F ⟨u,be,bf,i,j,x,t,bg,E⟩
  refine Ac ?_ i j
  clear i j F D
  rw[DB] at E
  refine AI (Ar O (AN (kp [10,8,7,1,9] O) (AC (AW O E (λao E=>?_) (λao E=>?_)))))
  ·refine AQ (AC (BB (WF.sl (AG 2 ?_))))
   obtain⟨y,U,E⟩:=bd E
   refine BE O O (Q.mono' t) SQ U O λbh ap=>B8 A9 x.1 O ap Q6 (λe=>by cases e) O λbi aq=>AF (Cp VP O x λbj bk V A=>?_)
   obtain⟨rfl,⟨bl,ar,au,av,aw⟩⟩:=Ed.ex (aq.mono A)
   refine Du (vs:=[.string y.Name,vI y.Kind,vI y.Target,vI y.Err,vI y.Drift]) O O O O Q6 O V .head O λbm m H=>AZ (kp [4,8,7,1,9] O) (AC (AC (Bq (.inl O) m (AD Ss O (AS Bd m O mh O Ag O ?_)))))
   obtain⟨ax,W,E⟩:=bd E
   refine A6 O O O Hu O (λh' o=>Bs (St.all h') ar (iq (n:=0) O) (iq (n:=2) O) W) (BY O (AA O ?_))
   obtain⟨X,c,E⟩:=bd E
   refine AV 5 22 (.bool X) ?_ ?_
   ·cases Y:(!ax)
    ·have c:=F5 Y c
     refine AB O (AD Wc O (AB O (AS Bd m O mh O Ag O (AB O ?_))))
     obtain⟨bn,Z,c⟩:=bd c
     refine A6 O O O Hu O (λh' o=>Bs (St.all h') av (iq (n:=0) O) (iq (n:=1099511627776) O) Z) (AB O (BY O (AJ O ?_)))
     cases c
     exact AU O
    have c:=Fy Y c
    cases c
    exact Aa O O
   refine AA O ?_
   obtain⟨ay,d,E⟩:=bd E
   refine AV 5 28 (.bool ay) ?_ ?_
   ·cases ab:X
    ·have d:=F5 ab d
     refine AB O (AD Wb O (AB O (AS Bd m O mh O Ag O (AB O ?_))))
     obtain⟨bo,ac,d⟩:=bd d
     refine A6 O O O Hu O (λh' o=>Bs (St.all h') aw (iq (n:=0) O) (iq (n:=1440) O) ac) (AB O (BY O (AJ O ?_)))
     cases d
     exact AU O
    have d:=Fy ab d
    cases d
    exact Aa O O
   refine BM (kp [28,4,8,7,1,9] O) λbp k I=>AW O E (λaz E=>?_) (λaz E=>?_)
   ·refine AI (AK O (kp [2] O) (Ad (λD F i j=>?_)))
    have ad:=k.drop .head
    cases E
    exact Dx i j O O (e5.trans (t.trans (A.trans (H.trans I)))) ⟨O,ad⟩
   refine AQ (WF.sl (AG 9 ?_))
   have K:=k6.mono (t.trans (A.trans (H.trans I)))
   refine Ae O K BP C1 O λbq a0=>Ao A9 k.1 O a0 F7 O λbr a1=>An O a1 FA O λa2=>Ae O K K0 Rm O λbs a3=>Af A9 k.1 O a3 Ag O λa4=>Ae O K D1 Gc O λbt a5=>Ao A9 k.1 O a5 JR O λbu a6=>An O a6 Hf O λa7=>Ya (cs:=[vI (↑b.Places.length:Int),vI b.Cells,vI (↑b.Links.length:Int)]) aK O O O (AF (Cp ZQ O k λbv bw ae af=>Du (vs:=[vI (↑b.Places.length:Int),vI b.Cells,vI (↑b.Links.length:Int)]) O O O O ZZ O ae .head O λbx s ag=>AZ (kp [5,4,8,7,1,9] O) (AC (Bq (.inr ⟨mo,by kernel_rfl⟩) s (AD We O (AS Bd s O (mt mh) O Ag O (AD Ss O (AS Bd s O (mt mh) O Ag O ?_))))))))
   obtain⟨a8,C,E⟩:=bd E
   have ah:=dO C
   refine aY O O aI ah.1 ah.2 O (YX (l:=([(↑b.Places.length:Int),b.Cells,(↑b.Links.length:Int)]:List Int)) (Value.int .i64) Bd s O mh O C Ag O ?_)
   have a9:AH a8:=dN (p:=λz=>AH z) (all_cons (Jl a2) (all_cons a4 (all_cons (Jl a7) YI))) C
   obtain⟨bz,ai,E⟩:=bd E
   refine A6 O O O P2 O (λh' o=>GS (St.all h') au a9 ai) (BY O (BM (kp [45,8,7,1,9] O) λb0 J aj=>AW O E (λba E=>?_) (λba E=>?_)))
   ·refine AI (AK O (kp [2] O) (Ad (λD F i j=>?_)))
    have ak:=J.sel [] 2 O
    cases E
    exact Dx i j O O (e5.trans (t.trans (A.trans (H.trans (I.trans (af.trans (ag.trans aj))))))) ⟨O,ak⟩
   refine AQ (BO (BZ (.inl O) (Ai O (AA O (AN (kp [9,8,7,1] O) (WF.nil (λD F i j=>?_)))))))
   have am:=J.sel [] 2 O
   exact⟨(BD (u+1)),_,_,i.sub (kp [8,7,1,9] O),j,am,(t.trans (A.trans (H.trans (I.trans (af.trans (ag.trans aj)))))),(BK _),E⟩
  refine BC O (λD F i j=>?_)
  exact⟨_,_,i.sub Oy,j,x,t,E⟩
 rintro D F ⟨b1,b2,i,j,an,bb,E⟩
 refine Ac ?_ i j
 clear i j F D
 rw[Eb] at E
 refine AI (AK O (kp [2] O) (Ad (λD F i j=>?_)))
 cases E
 exact Dx i j O O (e5.trans bb) ⟨O,an⟩
theorem Me (hs:St S L h) {s:Value}{x:AX}(G:Rd S h B1 s x) {r:Bool}(E:Gz N x=some r):
 CL Tryz.prog 55 #[s] S h (λv S' h'=>v= .bool r∧St S' (L) h'):=by
 refine BG (l:=[s]) 80 Tryz.func55 O Tryz.ntmps55 O λB=>?_
 rw[Gz] at E
 refine WF.sl (B4 O G (λe=>by cases e) O hs λq1 S2 h3 X e5 k6=>AG 1 (AY O (AF (AZ (kp [1] O) (AC (AI (Ae O k6 Kz Rk O λq7 k8=>Ao A9 X.1 O k8 VZ O λv9 Y=>An O Y SP O λbn=>AA O (AN (kp [8,7,6,1] O) (Am (λa w=>IV B S2 h3 (80,[]) a w [] (L) λ_ _=>Es N=some r) ?_ ?_)))))))))
 ·refine A5 (λn1=>λa w=>∃(z:Int),IV B S2 h3 (80,[]) a w [(7,vI (↑x.Roads.length:Int)),(6,v9),(1,q1),(8,vI z)] (L) λ_ _=>AH z∧DN N x (Es N) n1 z=some r) N ?_ ?_ ?_
  ·intro D F t u
   exact⟨0,_,_,t.sub (kp [7,6,1,8] O),u,X,(CA.refl S2 h3),(iq (n:=0) O),E⟩
  ·rintro D F ⟨_,_,_,_,_,_,_,_,E⟩
   rw[DN] at E;cases E
  rintro n1 D F ⟨z,bo,bp,t,u,A,y,bq,E⟩
  refine Ac ?_ t u
  clear t u F D
  rw[DN] at E
  refine AI (Ar O (AN (kp [9,7,6,1,8] O) (AC (AW O E (λaw E=>?_) (λaw E=>?_)))))
  ·refine AQ (AC (BB (WF.sl (AG 2 ?_))))
   obtain⟨b,Z,E⟩:=bd E
   refine BE O O (Y.mono' y) SP Z O λbr ax=>B8 A9 A.1 O ax Q5 (λe=>by cases e) O λbs ay=>AF (Cp VO O A λbt bu ab C=>?_)
   obtain⟨rfl,⟨bv,az,a0,a1,a2,a3,a4⟩⟩:=Fv.ex (ay.mono C)
   refine Du (vs:=[.string b.Name,vI b.From,vI b.To,vI b.Hours,vI b.Flow,vI b.By,vI b.Limit]) O O O O Q5 O ab .head O λbw c H=>AZ (kp [4,7,6,1,8] O) (AC (AC (Bq (.inl O) c (AD Sr O (AS Bd c O mh O Ag O ?_)))))
   have I:=k6.mono (y.trans (C.trans H))
   refine Ae O I Im Nz O λbx a5=>Ao Bd c.1 O a5 SF O λbz a6=>An O a6 Pc O λa7=>?_
   obtain⟨a8,ac,E⟩:=bd E
   refine A6 O O O P2 O (λh' o=>GS (St.all h') az (Jl a7) ac) (BY O (AA O ?_))
   obtain⟨J,d,E⟩:=bd E
   refine AV 12 31 (.bool J) ?_ ?_
   ·cases ad:(!a8)
    ·have d:=F5 ad d
     refine AB O (AD Sq O (AB O (AS Bd c O mh O Ag O (AB O (Ae O I Im Nz O λb0 a9=>AB O (Ao Bd c.1 O a9 SF O λb1 ba=>AB O (An O ba Pc O λb2=>AB O (Ae O I IU PQ O λb3 bb=>AB O (Ao Bd c.1 O bb T0 O λb4 bc=>AB O (An O bc Qc O λb5=>AB O (Ai O (AB O ?_))))))))))))
     obtain⟨b6,ae,d⟩:=bd d
     refine A6 O O O P2 O (λh' o=>GS (St.all h') a0 (BK _) ae) (AB O (BY O (AJ O ?_)))
     cases d
     exact AU O
    have d:=Fy ad d
    cases d
    exact Aa O O
   refine AA O (AV 6 38 (.bool (J||(decide (b.From=b.To)))) ?_ ?_)
   ·cases b7:J
    ·exact AB O (AD Sr O (AB O (AS Bd c O mh O Ag O (AB O (AD Sq O (AB O (AS Bd c O mh O Ag O (AB O (BL O (AJ O (AU O)))))))))))
    exact Aa O O
   refine AA O ?_
   obtain⟨af,g,E⟩:=bd E
   refine AV 5 44 (.bool af) ?_ ?_
   ·cases ag:(J||(decide (b.From=b.To)))
    ·have g:=F5 ag g
     refine AB O (AD WZ O (AB O (AS Bd c O mh O Ag O (AB O ?_))))
     obtain⟨b8,ah,g⟩:=bd g
     refine A6 O O O Hu O (λh' o=>Bs (St.all h') a1 (iq (n:=1) O) (iq (n:=24) O) ah) (AB O (BY O (AJ O ?_)))
     cases g
     exact AU O
    have g:=Fy ag g
    cases g
    exact Aa O O
   refine AA O ?_
   obtain⟨ai,i,E⟩:=bd E
   refine AV 5 50 (.bool ai) ?_ ?_
   ·cases aj:af
    ·have i:=F5 aj i
     refine AB O (AD WY O (AB O (AS Bd c O mh O Ag O (AB O ?_))))
     obtain⟨b9,ak,i⟩:=bd i
     refine A6 O O O Hu O (λh' o=>Bs (St.all h') a2 (iq (n:=0) O) (iq (n:=1073741824) O) ak) (AB O (BY O (AJ O ?_)))
     cases i
     exact AU O
    have i:=Fy aj i
    cases i
    exact Aa O O
   refine AA O ?_
   obtain⟨be,j,E⟩:=bd E
   refine AV 5 56 (.bool be) ?_ ?_
   ·cases am:ai
    ·have j:=F5 am j
     refine AB O (AD So O (AB O (AS Bd c O mh O Ag O (AB O ?_))))
     obtain⟨ca,an,j⟩:=bd j
     refine A6 O O O Jm O (λh' o=>B3 (St.all h') a4 an) (AB O (BY O (AJ O ?_)))
     cases j
     exact AU O
    have j:=Fy am j
    cases j
    exact Aa O O
   refine BM (kp [56,4,7,6,1,8] O) λcb p K=>AW O E (λbf E=>?_) (λbf E=>?_)
   ·refine AI (AK O (kp [2] O) (Ad (λD F t u=>?_)))
    have ao:=p.drop .head
    cases E
    exact Dx t u O O (e5.trans (y.trans (C.trans (H.trans K)))) ⟨O,ao⟩
   refine AQ (AC (Bq (.inl O) p (AD Px O (AS Bd p O mh O Ag O (BL O (AA O (AV 4 64 (.bool ((decide (b.By=(-1)))&&(decide (b.Limit≠0)))) ?_ ?_)))))))
   ·cases cc:(decide (b.By=(-1)))
    ·exact Aa O O
    exact AB O (AD So O (AB O (AS Bd p O mh O Ag O (AB O (Bt O (AJ O (AU O)))))))
   refine AA O ?_
   obtain⟨bg,k,E⟩:=bd E
   refine AV 13 78 (.bool bg) ?_ ?_
   ·cases ap:((decide (b.By=(-1)))&&(decide (b.Limit≠0)))
    ·have k:=F5 ap k
     refine AB O (AD Px O (AB O (AS Bd p O mh O Ag O (AB O (Bt O (AB O (AA O ?_)))))))
     obtain⟨bh,m,k⟩:=bd k
     refine AV 8 77 (.bool bh) ?_ ?_
     ·cases aq:(decide (b.By≠(-1)))
      ·have m:=F5 aq m
       cases m
       exact Aa O O
      have m:=Fy aq m
      refine AB O (AD Px O (AB O (AS Bd p O mh O Ag O (AB O (Ae O (I.mono K) BP C1 O λcd bi=>AB O (Ao Bd p.1 O bi F7 O λce bj=>AB O (An O bj FA O λbk=>AB O ?_)))))))
      obtain⟨cf,ar,m⟩:=bd m
      refine A6 O O O P2 O (λh' o=>GS (St.all h') a3 (Jl bk) ar) (AB O (BY O (AB O (AJ O ?_))))
      cases m
      exact AU O
     refine AJ O ?_
     cases k
     exact AU O
    have k:=Fy ap k
    cases k
    exact Aa O O
   refine BM (kp [78,7,6,1,8] O) λcg M Q=>AW O E (λau E=>?_) (λau E=>?_)
   ·refine AI (AK O (kp [2] O) (Ad (λD F t u=>?_)))
    have U:=M.drop .head
    cases E
    exact Dx t u O O (e5.trans (y.trans (C.trans (H.trans (K.trans Q))))) ⟨O,U⟩
   refine AQ (BO (BZ (.inl O) (Ai O (AA O (AN (kp [8,7,6,1] O) (WF.nil (λD F t u=>?_)))))))
   have V:=M.drop .head
   exact⟨(BD (z+1)),_,_,t.sub (kp [7,6,1,8] O),u,V,(y.trans (C.trans (H.trans (K.trans Q)))),(BK _),E⟩
  refine BC O (λD F t u=>?_)
  exact⟨_,_,t.sub Oy,u,A,y,E⟩
 rintro D F ⟨bl,bm,t,u,W,av,E⟩
 refine Ac ?_ t u
 clear t u F D
 rw[Es] at E
 refine AI (AK O (kp [2] O) (Ad (λD F t u=>?_)))
 cases E
 exact Dx t u O O (e5.trans av) ⟨O,W⟩
theorem L4 (hs:St S L h) {n:Value}{t:AX}(p:Rd S h B1 n t) {r:Bool}(E:IL N t=some r):
 CL Tryz.prog 27 #[n] S h (λv S' h'=>v= .bool r∧St S' (L) h'):=by
 refine BG (l:=[n]) 37 Tryz.func27 O Tryz.ntmps27 O λB=>?_
 rw[IL] at E
 refine WF.sl (B4 O p (λe=>by cases e) O hs λq1 S2 h3 a e5 s=>AG 1 (AY O (AF (AZ (kp [1] O) (AC (Bq (.inl O) a (B8 Bd a.1 O s G6 (λe=>by cases e) O λv7 k8=>?_)))))))
 obtain⟨y9,ad,E⟩:=bd E
 refine A6 O O O fF O (λh' o=>NH (St.all h') (k8.mono (o.all a.1)) ad) (AA O ?_)
 obtain⟨u,b,E⟩:=bd E
 refine AV 3 8 (.bool u) ?_ ?_
 ·cases w:y9
  ·have b:=F5 w b
   cases b
   exact Aa O O
  have b:=Fy w b
  refine AB O (B8 Bd a.1 O s G6 (λe=>by cases e) O λao ae=>AB O ?_)
  obtain⟨ap,x,b⟩:=bd b
  refine A6 O O O fE O (λh' o=>Mf (St.all h') (ae.mono (o.all a.1)) x) (AJ O ?_)
  cases b
  exact AU O
 refine AA O ?_
 obtain⟨y,c,E⟩:=bd E
 refine AV 3 12 (.bool y) ?_ ?_
 ·cases z:u
  ·have c:=F5 z c
   cases c
   exact Aa O O
  have c:=Fy z c
  refine AB O (B8 Bd a.1 O s G6 (λe=>by cases e) O λaq af=>AB O ?_)
  obtain⟨ar,A,c⟩:=bd c
  refine A6 O O O fD O (λh' o=>MG (St.all h') (af.mono (o.all a.1)) A) (AJ O ?_)
  cases c
  exact AU O
 refine AA O ?_
 obtain⟨C,d,E⟩:=bd E
 refine AV 3 16 (.bool C) ?_ ?_
 ·cases D:y
  ·have d:=F5 D d
   cases d
   exact Aa O O
  have d:=Fy D d
  refine AB O (B8 Bd a.1 O s G6 (λe=>by cases e) O λau ag=>AB O ?_)
  obtain⟨av,F,d⟩:=bd d
  refine A6 O O O fC O (λh' o=>Mg (St.all h') (ag.mono (o.all a.1)) F) (AJ O ?_)
  cases d
  exact AU O
 refine AA O ?_
 obtain⟨G,g,E⟩:=bd E
 refine AV 3 20 (.bool G) ?_ ?_
 ·cases H:C
  ·have g:=F5 H g
   cases g
   exact Aa O O
  have g:=Fy H g
  refine AB O (B8 Bd a.1 O s G6 (λe=>by cases e) O λaw ah=>AB O ?_)
  obtain⟨ax,I,g⟩:=bd g
  refine A6 O O O fB O (λh' o=>Lu (St.all h') (ah.mono (o.all a.1)) I) (AJ O ?_)
  cases g
  exact AU O
 refine AA O ?_
 obtain⟨J,i,E⟩:=bd E
 refine AV 3 24 (.bool J) ?_ ?_
 ·cases K:G
  ·have i:=F5 K i
   cases i
   exact Aa O O
  have i:=Fy K i
  refine AB O (B8 Bd a.1 O s G6 (λe=>by cases e) O λay ai=>AB O ?_)
  obtain⟨az,M,i⟩:=bd i
  refine A6 O O O fA O (λh' o=>MF (St.all h') (ai.mono (o.all a.1)) M) (AJ O ?_)
  cases i
  exact AU O
 refine AA O ?_
 obtain⟨Q,j,E⟩:=bd E
 refine AV 3 28 (.bool Q) ?_ ?_
 ·cases U:J
  ·have j:=F5 U j
   cases j
   exact Aa O O
  have j:=Fy U j
  refine AB O (B8 Bd a.1 O s G6 (λe=>by cases e) O λa0 aj=>AB O ?_)
  obtain⟨a1,V,j⟩:=bd j
  refine A6 O O O eZ O (λh' o=>Md (St.all h') (aj.mono (o.all a.1)) V) (AJ O ?_)
  cases j
  exact AU O
 refine AA O ?_
 obtain⟨W,k,E⟩:=bd E
 refine AV 3 32 (.bool W) ?_ ?_
 ·cases X:Q
  ·have k:=F5 X k
   cases k
   exact Aa O O
  have k:=Fy X k
  refine AB O (B8 Bd a.1 O s G6 (λe=>by cases e) O λa2 ak=>AB O ?_)
  obtain⟨a3,Y,k⟩:=bd k
  refine A6 O O O eY O (λh' o=>MH (St.all h') (ak.mono (o.all a.1)) Y) (AJ O ?_)
  cases k
  exact AU O
 refine AA O ?_
 obtain⟨al,m,E⟩:=bd E
 refine AV 3 36 (.bool al) ?_ ?_
 ·cases Z:W
  ·have m:=F5 Z m
   cases m
   exact Aa O O
  have m:=Fy Z m
  refine AB O (B8 Bd a.1 O s G6 (λe=>by cases e) O λa4 am=>AB O ?_)
  obtain⟨a5,ab,m⟩:=bd m
  refine A6 O O O eX O (λh' o=>Me (St.all h') (am.mono (o.all a.1)) ab) (AJ O ?_)
  cases m
  exact AU O
 refine AY O (BM (kp [2] O) λa6 ac an=>Ad (λaa ww hf hw=>?_))
 cases E
 exact Dx hf hw O O (e5.trans an) ⟨O,ac⟩
theorem MV (hs:St S L h) {b:Value}{g:(List Int)}(i:Sl S h AM.int b g) {r:Bool}(E:HT N g=some r):
 CL Tryz.prog 91 #[b] S h (λv S' h'=>v= .bool r∧St S' (L) h'):=by
 refine BG (l:=[b]) 24 Tryz.func91 O Tryz.ntmps91 O λB=>?_
 rw[HT] at E
 refine AI (AK O (kp [0] O) (AI (AK O (kp [3,0] O) (AC (AI (AA O (An O i BQ O λM=>AA O (AN (kp [8,7,6,3] O) (Am (λa w=>IV B S h (24,[]) a w [] (L) λ_ _=>Fi N=some r) ?_ ?_)))))))))
 ·refine A5 (λC=>λa w=>∃(q:Int) (s:Int),IV B S h (24,[]) a w [(7,vI (↑g.length:Int)),(6,b),(3,vI q),(8,vI s)] (L) λ_ _=>AH q∧AH s∧Dy N g (Fi N) C q s=some r) N ?_ ?_ ?_
  ·intro k m c d
   exact⟨0,0,_,_,c.sub (kp [7,6,3,8] O),d,hs,(CA.refl S h),(iq (n:=0) O),(iq (n:=0) O),E⟩
  ·rintro k m ⟨_,_,_,_,_,_,_,_,_,_,E⟩
   rw[Dy] at E;cases E
  rintro C k m ⟨q,s,D,F,c,d,j,o,Q,U,E⟩
  refine Ac ?_ c d
  clear c d m k
  rw[Dy] at E
  refine AI (Ar O (AN (kp [9,7,6,3,8] O) (AC (AW O E (λx E=>?_) (λx E=>?_)))))
  ·refine AQ (AC (BB (AI ?_)))
   obtain⟨p,t,E⟩:=bd E
   refine BE O O (i.mono' o) BQ t O λG y=>Af A9 j.1 O y Ag O λH=>AK O (kp [5,7,6,3,8] O) (AC (AI (AA O (Ar O (AA O (AV 5 19 (.bool ((decide (p<0))||(decide ((BD (1125899906842624-q))<p)))) ?_ ?_))))))
   ·cases I:(decide (p<0))
    ·exact AB O (AA O (AB O (AA O (AB O (Ck O (AB O (Bf O (AJ O (AU O)))))))))
    exact Aa O O
   refine AN (kp [19,5,7,6,3,8] O) (AW O E (λz E=>?_) (λz E=>?_))
   ·refine AI (AK O (kp [2] O) (Ad (λk m c d=>?_)))
    cases E
    exact Dx c d O O o ⟨O,j⟩
   refine AQ (BZ (.inl O) (AA O (AA O (Ai O (AK O (kp [3,7,6,8] O) (BO (BZ (.inl O) (Ai O (AA O (AN (kp [8,3,7,6] O) (WF.nil (λk m c d=>?_))))))))))))
   exact⟨(BD (q+p)),(BD (s+1)),_,_,c.sub (kp [7,6,3,8] O),d,j,o,(BK _),(BK _),E⟩
  refine BC O (λk m c d=>?_)
  exact⟨_,_,c.sub Oy,d,j,o,E⟩
 rintro k m ⟨J,K,c,d,u,A,E⟩
 refine Ac ?_ c d
 clear c d m k
 rw[Fi] at E
 refine AI (AK O (kp [2] O) (Ad (λk m c d=>?_)))
 cases E
 exact Dx c d O O A ⟨O,u⟩
theorem MW (hs:St S L h) {b:Value}{d:(List Int)}(g:Sl S h AM.int b d) {a:Int}(i:AH a) {r:Bool}(E:Ir N d a=some r):
 CL Tryz.prog 67 #[b,vI a] S h (λv S' h'=>v= .bool r∧St S' (L) h'):=by
 refine BG (l:=[b,vI a]) 21 Tryz.func67 O Tryz.ntmps67 O λB=>?_
 rw[Ir] at E
 refine AI (AK O (kp [0,1] O) (AC (Bq (.inl O) hs (AA O (Gf O (AA O (AV 3 10 (.bool ((decide (0≤a))&&(decide (a≤16)))) ?_ ?_)))))))
 ·cases t:(decide (0≤a))
  ·exact Aa O O
  exact AB O (AA O (AB O (GQ O (AJ O (AU O)))))
 refine AA O (AV 5 16 (.bool (((decide (0≤a))&&(decide (a≤16)))&&(decide ((↑d.length:Int)=a)))) ?_ ?_)
 ·cases u:((decide (0≤a))&&(decide (a≤16)))
  ·exact Aa O O
  exact AB O (AA O (AB O (An O g BQ O λw=>AB O (AA O (AB O (BL O (AJ O (AU O))))))))
 refine AA O ?_
 obtain⟨p,c,E⟩:=bd E
 refine AV 3 20 (.bool p) ?_ ?_
 ·cases n:(((decide (0≤a))&&(decide (a≤16)))&&(decide ((↑d.length:Int)=a)))
  ·have c:=F5 n c
   cases c
   exact Aa O O
  have c:=Fy n c
  refine AB O (AA O (AB O ?_))
  obtain⟨x,j,c⟩:=bd c
  refine A6 O O O Y9 O (λh' o=>MV (St.all h') (g.mono' (o.all hs.1)) j) (AJ O ?_)
  cases c
  exact AU O
 refine AY O (BM (kp [4] O) λy k m=>Ad (λz A q s=>?_))
 cases E
 exact Dx q s O O m ⟨O,k⟩
theorem IM (hs:St S L h) {b:Int}(g:AH b) {a:Int}(i:AH a) {r:Int}(E:Fl N b a=some r):
 CL Tryz.prog 36 #[vI b,vI a] S h (λv S' h'=>v=vI r∧AH r∧St S' (L) h'):=by
 refine BG (l:=[vI b,vI a]) 24 Tryz.func36 O Tryz.ntmps36 O λB=>?_
 rw[Fl] at E
 refine AI (AK O (kp [0,1] O) (AC (AI (AA O (Bf O (AA O (AV 5 12 (.bool ((decide (0<a))&&(decide ((BD (9223372036854775807-a))<b)))) ?_ ?_)))))))
 ·cases p:(decide (0<a))
  ·exact Aa O O
  exact AB O (AA O (AB O (AA O (AB O (Ck O (AB O (Bf O (AJ O (AU O)))))))))
 refine AN (kp [12,0,1] O) (AW O E (λm E=>?_) (λm E=>?_))
 ·refine AI (AK O (kp [4] O) (Ad (λj k c d=>?_)))
  cases E
  exact Dx c d O O (CA.refl S h) ⟨O,(iq (n:=9223372036854775807) O),hs⟩
 refine AQ (AC (AI (AA O (Ar O (AA O (AV 5 20 (.bool ((decide (a<0))&&(decide (b<(BD ((-9223372036854775808)-a)))))) ?_ ?_))))))
 ·cases q:(decide (a<0))
  ·exact Aa O O
  exact AB O (AA O (AB O (AA O (AB O (Ck O (AB O (Ar O (AJ O (AU O)))))))))
 refine AN (kp [20,0,1] O) (AW O E (λo E=>?_) (λo E=>?_))
 ·refine AI (AK O (kp [4] O) (Ad (λj k c d=>?_)))
  cases E
  exact Dx c d O O (CA.refl S h) ⟨O,(iq (n:=(-9223372036854775808)) O),hs⟩
 refine AQ (AI (AA O (AA O (Ai O (AK O (kp [4] O) (Ad (λj k c d=>?_)))))))
 cases E
 exact Dx c d O O (CA.refl S h) ⟨O,(BK _),hs⟩
theorem Ew (hs:St S L h) {b:Value}{c:(List Int)}(d:Sl S h AM.int b c) {r:Int}(E:Dn N c=some r):
 CL Tryz.prog 59 #[b] S h (λv S' h'=>v=vI r∧AH r∧St S' (L) h'):=by
 refine BG (l:=[b]) 17 Tryz.func59 O Tryz.ntmps59 O λB=>?_
 rw[Dn] at E
 refine AI (AK O (kp [0] O) (AI (AK O (kp [3,0] O) (AC (AI (AA O (An O d BQ O λb1=>AA O (AN (kp [8,7,6,3] O) (Am (λa w=>∃(z:Int),IV B S h (17,[]) a w [(3,vI z)] (L) λ_ _=>AH z∧HB N z=some r) ?_ ?_)))))))))
 ·refine A5 (λK=>λa w=>∃(s:Int) (j:Int),IV B S h (17,[]) a w [(7,vI (↑c.length:Int)),(6,b),(3,vI s),(8,vI j)] (L) λ_ _=>AH s∧AH j∧Fj N c (HB N) K s j=some r) N ?_ ?_ ?_
  ·intro m p g i
   exact⟨0,0,_,_,g.sub (kp [7,6,3,8] O),i,hs,(CA.refl S h),(iq (n:=0) O),(iq (n:=0) O),E⟩
  ·rintro m p ⟨_,_,_,_,_,_,_,_,_,_,E⟩
   rw[Fj] at E;cases E
  rintro K m p ⟨s,j,Q,U,g,i,k,q,M,V,E⟩
  refine Ac ?_ g i
  clear g i p m
  rw[Fj] at E
  refine AI (Ar O (AN (kp [9,7,6,3,8] O) (AC (AW O E (λA E=>?_) (λA E=>?_)))))
  ·refine AQ (AC (BB (AI ?_)))
   obtain⟨W,t,E⟩:=bd E
   refine BE O O (d.mono' q) BQ t O λX C=>Af A9 k.1 O C Ag O λD=>AK O (kp [5,7,6,3,8] O) (Bq (.inl O) k (AA O (AA O ?_)))
   obtain⟨F,u,E⟩:=bd E
   refine CY O O O Qs O (λh' o=>IM (St.all h') M D u) λG=>?_
   have H:=G
   refine AY O (BM (kp [3,7,6,8] O) λY x I=>BO (BZ (.inl O) (Ai O (AA O (AN (kp [8,3,7,6] O) (WF.nil (λm p g i=>?_)))))))
   exact⟨F,(BD (j+1)),_,_,g.sub (kp [7,6,3,8] O),i,x,(q.trans I),H,(BK _),E⟩
  refine BC O (λm p g i=>?_)
  exact⟨s,_,_,g.sub (kp [3] O),i,k,q,M,E⟩
 rintro m p ⟨z,Z,ab,g,i,y,J,r3,E⟩
 refine Ac ?_ g i
 clear g i p m
 rw[HB] at E
 refine AI (AA O (AK O (kp [2] O) (Ad (λm p g i=>?_))))
 cases E
 exact Dx g i O O J ⟨O,r3,y⟩
theorem F8 (hs:St S L h) {b:Int}(d:AH b) {a:Int}(c:AH a) {r:Bool}(E:FW N b a=some r):
 CL Tryz.prog 57 #[vI b,vI a] S h (λv S' h'=>v= .bool r∧St S' (L) h'):=by
 refine BG (l:=[vI b,vI a]) 12 Tryz.func57 O Tryz.ntmps57 O λB=>?_
 rw[FW] at E
 refine AI (AK O (kp [0,1] O) (AI (AA O (Gf O (AA O (AV 4 11 (.bool ((decide (0≤b))&&(decide (b<a)))) ?_ ?_))))))
 ·cases j:(decide (0≤b))
  ·exact Aa O O
  exact AB O (AA O (AB O (AA O (AB O (Ar O (AJ O (AU O)))))))
 refine AK O (kp [4] O) (Ad (λk m g i=>?_))
 cases E
 exact Dx g i O O (CA.refl S h) ⟨O,hs⟩
theorem Ot (hs:St S L h) {t:Value}{m:AX}(Z:Rd S h B1 t m) {u:Value}{j:Aj}(ab:Rd S h CO u j) {r:Int×Bool}(E:I6 N m j=some r):
 CL Tryz.prog 37 #[t,u] S h (λv S' h'=>v= .tuple #[vI r.1,.bool r.2]∧AH r.1∧St S' (L) h'):=by
 refine BG (l:=[t,u]) 76 Tryz.func37 O Tryz.ntmps37 O λB=>?_
 rw[I6] at E
 refine WF.sl (B4 O Z (λe=>by cases e) O hs λq1 S2 h3 bo e5 k6=>B4 O (ab.mono e5) (λe=>by cases e) O bo λq8 S9 an ae y az=>AG 2 (AY O (AY O (AF (AZ (kp [3,2] O) (AI (AK O (kp [6,3,2] O) (AC (AI (Ae O az Iw Dm O λcq bp=>Ao A9 ae.1 O bp Gu O λbq a0=>An O a0 Ev O λcr=>AA O (AN (kp [15,14,13,6,3,2] O) (Am (λa w=>∃(K:Int),IV B S9 an (76,[]) a w [(3,q8),(2,q1),(6,vI K)] (L) λ_ _=>AH K∧ES N m j K=some r) ?_ ?_))))))))))))
 ·refine A5 (λn1=>λa w=>∃(H:Int) (M:Int),IV B S9 an (76,[]) a w [(14,vI (↑j.Own.length:Int)),(13,bq),(3,q8),(2,q1),(6,vI H),(15,vI M)] (L) λ_ _=>AH H∧AH M∧ER N m j (ES N m j) n1 H M=some r) N ?_ ?_ ?_
  ·intro p s b i
   exact⟨0,0,_,_,b.sub (kp [14,13,3,2,6,15] O),i,ae,(CA.refl S9 an),(iq (n:=0) O),(iq (n:=0) O),E⟩
  ·rintro p s ⟨_,_,_,_,_,_,_,_,_,_,E⟩
   rw[ER] at E;cases E
  rintro n1 p s ⟨H,M,cs,ct,b,i,z,I,br,cu,E⟩
  refine Ac ?_ b i
  clear b i s p
  rw[ER] at E
  refine AI (Ar O (AN (kp [16,14,13,3,2,6,15] O) (AC (AW O E (λbs E=>?_) (λbs E=>?_)))))
  ·refine AQ (AC (BB (AI ?_)))
   obtain⟨cv,a1,E⟩:=bd E
   refine BE O O (a0.mono' I) Ev a1 O λcw bt=>Ao A9 z.1 O bt BW O λcx a2=>AK O (kp [8,14,13,3,2,6,15] O) (AC (AC (Bq (.inl O) z (AA O (Ae O (k6.mono (y.trans I)) EQ H1 O λcy bu=>Ao Bd z.1 O bu Kj O λcz bv=>An O bv KN O λbw=>?_)))))
   obtain⟨c0,a3,E⟩:=bd E
   refine A6 O O O ZF O (λh' o=>MW (St.all h') (a2.mono' (o.all z.1)) (Jl bw) a3) (BY O (BM (kp [24,8,14,13,3,2,6,15] O) λc1 Q ac=>AW O E (λbx E=>?_) (λbx E=>?_)))
   ·refine AI (AY O (AK O (kp [5,4] O) (Ad (λp s b i=>?_))))
    cases E
    exact KH b O i (IK (I1 b (v:=_) O) (IK (I1 b (v:=_) O) KG)) O (e5.trans (y.trans (I.trans ac))) ⟨O,(iq (n:=0) O),Q⟩
   refine AQ (AC (Bq (.inl O) Q (AA O (AA O ?_))))
   obtain⟨bz,a4,E⟩:=bd E
   refine CY O O O NO O (λh' o=>Ew (St.all h') ((a2.mono' ac).mono' (o.all Q.1)) a4) λb0=>?_
   have c2:=b0
   refine Ai O (AY O (BM (kp [6,14,13,3,2,15] O) λc3 af a5=>AI (AA O (Bf O (AN (kp [30,6,14,13,3,2,15] O) (AW O E (λb1 E=>?_) (λb1 E=>?_)))))))
   ·refine AI (AY O (AK O (kp [5,4] O) (Ad (λp s b i=>?_))))
    cases E
    exact KH b O i (IK (I1 b (v:=_) O) (IK (I1 b (v:=_) O) KG)) O (e5.trans (y.trans (I.trans (ac.trans a5)))) ⟨O,(iq (n:=0) O),af⟩
   refine AQ (BO (BZ (.inl O) (Ai O (AA O (AN (kp [15,6,14,13,3,2] O) (WF.nil (λp s b i=>?_)))))))
   exact⟨(BD (H+bz)),(BD (M+1)),_,_,b.sub (kp [14,13,3,2,6,15] O),i,af,(I.trans (ac.trans a5)),(BK _),(BK _),E⟩
  refine BC O (λp s b i=>?_)
  exact⟨H,_,_,b.sub (kp [3,2,6] O),i,z,I,br,E⟩
 rintro p s ⟨K,ao,ap,b,i,ag,J,b2,E⟩
 refine Ac ?_ b i
 clear b i s p
 rw[ES] at E
 refine AC (AI ?_)
 have a6:=az.mono J
 refine Ae O a6 D0 G2 O λc4 b3=>Ao A9 ag.1 O b3 I3 O λb4 a7=>An O a7 H9 O λc5=>AA O (AN (kp [35,34,33,3,2,6] O) (Am (λa w=>∃(ad:Int),IV B ao ap (76,[]) a w [(6,vI ad)] (L) λ_ _=>AH ad∧Gp N ad=some r) ?_ ?_))
 ·refine A5 (λn3=>λa w=>∃(C:Int) (U:Int),IV B ao ap (76,[]) a w [(34,vI (↑j.Queue.length:Int)),(33,b4),(3,q8),(2,q1),(6,vI C),(35,vI U)] (L) λ_ _=>AH C∧AH U∧FB N m j (Gp N) n3 C U=some r) N ?_ ?_ ?_
  ·intro p s b i
   exact⟨K,0,_,_,b.sub (kp [34,33,3,2,6,35] O),i,ag,(CA.refl ao ap),b2,(iq (n:=0) O),E⟩
  ·rintro p s ⟨_,_,_,_,_,_,_,_,_,_,E⟩
   rw[FB] at E;cases E
  rintro n3 p s ⟨C,U,c6,c7,b,i,V,A,b5,c8,E⟩
  refine Ac ?_ b i
  clear b i s p
  rw[FB] at E
  refine AI (Ar O (AN (kp [36,34,33,3,2,6,35] O) (AC (AW O E (λb6 E=>?_) (λb6 E=>?_)))))
  ·refine AQ (AC (BB (WF.sl (AG 2 ?_))))
   obtain⟨W,a8,E⟩:=bd E
   refine BE O O (a7.mono' A) H9 a8 O λc9 b7=>B8 A9 V.1 O b7 Kh (λe=>by cases e) O λda b8=>AF (Cp QY O V λdb dc a9 D=>?_)
   obtain⟨ah,rfl,ca,ba,X⟩:=Ap.ex (b8.mono D)
   refine G7 (vs:=[vI W.At,vI W.To,ah]) (cs':=[vI W.At,vI W.To,ah]) O O O (AE O (AE O (AE X.one EH))) Kh O a9 .head O O λcb c k=>AZ (kp [10,34,33,3,2,6,35] O) (AC (AC (Bq (.inl O) c (AD Ll O (AS Bd c O mh O Ag O (Ae O (a6.mono (A.trans (D.trans k))) Aj.f_Hour HK O λcc bb=>Af Bd c.1 O bb Ag O λcd=>Ar O (AA O ?_)))))))
   obtain⟨ai,d,E⟩:=bd E
   refine AV 8 52 (.bool ai) ?_ ?_
   ·cases aj:(decide (W.At<j.Hour))
    ·have d:=F5 aj d
     refine AB O (AD KY O (AB O (AS Bd c O mh O Ag O (AB O (Ae O (k6.mono (y.trans (J.trans (A.trans (D.trans k))))) BP C1 O λce bc=>AB O (Ao Bd c.1 O bc F7 O λcf be=>AB O (An O be FA O λbf=>AB O ?_)))))))
     obtain⟨cg,aq,d⟩:=bd d
     refine A6 O O O Oi O (λh' o=>F8 (St.all h') ba (Jl bf) aq) (AB O (BY O (AJ O ?_)))
     cases d
     exact AU O
    have d:=Fy aj d
    cases d
    exact Aa O O
   refine AA O ?_
   obtain⟨bg,g,E⟩:=bd E
   refine AV 8 61 (.bool bg) ?_ ?_
   ·cases ak:ai
    ·have g:=F5 ak g
     refine AB O (AD KX O (AB O (AS Bd c O mh O BW O (AB O (Ae O (k6.mono (y.trans (J.trans (A.trans (D.trans k))))) EQ H1 O λch bh=>AB O (Ao Bd c.1 O bh Kj O λci bi=>AB O (An O bi KN O λbj=>AB O ?_)))))))
     obtain⟨cj,ar,g⟩:=bd g
     refine A6 O O O ZF O (λh' o=>MW (St.all h') ((X.mono' k).mono' (o.all c.1)) (Jl bj) ar) (AB O (BY O (AJ O ?_)))
     cases g
     exact AU O
    have g:=Fy ak g
    cases g
    exact Aa O O
   refine BM (kp [61,10,34,33,3,2,6,35] O) λck x F=>AW O E (λbk E=>?_) (λbk E=>?_)
   ·refine AI (AY O (AK O (kp [5,4] O) (Ad (λp s b i=>?_))))
    have au:=x.drop .head
    cases E
    exact KH b O i (IK (I1 b (v:=_) O) (IK (I1 b (v:=_) O) KG)) O (e5.trans (y.trans (J.trans (A.trans (D.trans (k.trans F)))))) ⟨O,(iq (n:=0) O),au⟩
   refine AQ (AC (Bq (.inl O) x (AD KX O (AS Bd x O mh O BW O ?_))))
   obtain⟨G,av,E⟩:=bd E
   refine CY O O O NO O (λh' o=>Ew (St.all h') ((X.mono' (k.trans F)).mono' (o.all x.1)) av) λbl=>?_
   have cl:=bl
   refine AY O (BM (kp [11,34,33,3,2,6,35] O) λcm Y am=>AI (AA O (AA O (Ai O (AK O (kp [6,11,34,33,3,2,35] O) (AI (AA O (GQ O (AA O (AV 3 73 (.bool ((decide (G≤0))||(decide (1125899906842624<(BD (C+G)))))) ?_ ?_))))))))))
   ·cases cn:(decide (G≤0))
    ·exact AB O (AA O (AB O (Bf O (AJ O (AU O)))))
    exact Aa O O
   refine AN (kp [73,6,34,33,3,2,35] O) (AW O E (λbm E=>?_) (λbm E=>?_))
   ·refine AI (AY O (AK O (kp [5,4] O) (Ad (λp s b i=>?_))))
    have aw:=Y.drop .head
    cases E
    exact KH b O i (IK (I1 b (v:=_) O) (IK (I1 b (v:=_) O) KG)) O (e5.trans (y.trans (J.trans (A.trans (D.trans (k.trans (F.trans am))))))) ⟨O,(iq (n:=0) O),aw⟩
   refine AQ (BO (BZ (.inl O) (Ai O (AA O (AN (kp [35,6,34,33,3,2] O) (WF.nil (λp s b i=>?_)))))))
   have ax:=Y.drop .head
   exact⟨(BD (C+G)),(BD (U+1)),_,_,b.sub (kp [34,33,3,2,6,35] O),i,ax,(A.trans (D.trans (k.trans (F.trans am)))),(BK _),(BK _),E⟩
  refine BC O (λp s b i=>?_)
  exact⟨C,_,_,b.sub (kp [6] O),i,V,A,b5,E⟩
 rintro p s ⟨ad,co,cp,b,i,ay,bn,b9,E⟩
 refine Ac ?_ b i
 clear b i s p
 rw[Gp] at E
 refine AI (AA O (AY O (AK O (kp [5,4] O) (Ad (λp s b i=>?_)))))
 cases E
 exact KH b O i (IK (I1 b (v:=_) O) (IK (I1 b (v:=_) O) KG)) O (e5.trans (y.trans (J.trans bn))) ⟨O,b9,ay⟩
end Go.Proofs.YtblcgjadhemlbaaGreat
