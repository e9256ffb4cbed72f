import Derived.Test.YtblcgjadhemlbaaGreatUWalk4
namespace Go.Proofs.YtblcgjadhemlbaaGreat
open Go.RowKit
set_option linter.unusedVariables false
set_option linter.unusedSimpArgs false
set_option maxRecDepth 10000
set_option maxHeartbeats 2000000
variable {N:Nat}{S:Nat→Prop}{L:List HP}{h:Av}
theorem MU (hs:St S L h) {s:Value}{d:AW}(I:Rd S h B3 s d) {r:Bool}(E:Gp N d=some r):
 CG Tryz.prog 53 #[s] S h (λv S' h'=>v= .bool r∧St S' (L) h'):=by
 refine BB (l:=[s]) 64 Tryz.func53 O Tryz.ntmps53 O λB=>?_
 rw[Gp] at E
 refine WF.sl (B5 O I (λe=>by cases e) O hs λq1 S2 h3 ai e5 k6=>AH 1 (AY O (AF (AZ (kp [1] O) (AD (AI (Ai O k6 Ia Nv O λq7 k8=>An A6 ai.1 O k8 SH O λv9 aj=>Al O aj PW O λb7=>AA O (AN (kp [10,9,8,1] O) (Am (λa w=>IV B S2 h3 (64,[]) a w [(1,q1)] (L) λ_ _=>DF N d=some r) ?_ ?_)))))))))
 ·refine A3 (λn1=>λa w=>∃(y:Int),IV B S2 h3 (64,[]) a w [(9,vI (↑d.Towns.length:Int)),(8,v9),(1,q1),(10,vI y)] (L) λ_ _=>AG y∧DE N d (DF N d) n1 y=some r) N ?_ ?_ ?_
  ·intro t u b c
   exact⟨0,_,_,b.sub (kp [9,8,1,10] O),c,ai,(B9.refl S2 h3),(iq (n:=0) O),E⟩
  ·rintro t u ⟨_,_,_,_,_,_,_,_,E⟩
   rw[DE] at E;cases E
  rintro n1 t u ⟨y,b8,b9,b,c,z,A,ca,E⟩
  refine Ad ?_ b c
  clear b c u t
  rw[DE] at E
  refine AI (Aq O (AN (kp [11,9,8,1,10] O) (AD (AX O E (λbe E=>?_) (λbe E=>?_)))))
  ·refine AT (AD (A5 (WF.sl (AH 2 ?_))))
   obtain⟨x,ak,E⟩:=bd E
   refine BD O O (aj.mono' A) PW ak O λcb bf=>B4 A6 z.1 O bf Q8 (λe=>by cases e) O λcc bg=>AF (Cs Vk O z λcd ce am J=>?_)
   obtain⟨rfl,⟨cf,bh,bi,bj,bk,bl,bm⟩⟩:=GL.ex (bg.mono J)
   refine Dh (vs:=[.string x.Name,vI x.Place,vI x.Flood,vI x.Lead,vI x.People,vI x.Watch,vI x.Quorum]) O O O O Q8 O am .head O λcg g X=>AZ (kp [4,9,8,1,10] O) (AD (Bl (.inl O) g (AC W9 O (AS Bb g O mh O Ag O (Ai O (k6.mono (A.trans (J.trans X))) BU DI O λch bn=>An Bb g.1 O bn GO O λci bo=>Al O bo qZ O λbp=>?_)))))
   obtain⟨bq,an,E⟩:=bd E
   refine Az O O O Px O (λh' o=>GK (St.all h') bh (JW bp) an) (BV O (AA O ?_))
   obtain⟨ao,i,E⟩:=bd E
   refine AV 5 26 (.bool ao) ?_ ?_
   ·cases ap:(!bq)
    ·have i:=GB ap i
     refine AB O (AC W8 O (AB O (AS Bb g O mh O Ag O (AB O ?_))))
     obtain⟨cj,aq,i⟩:=bd i
     refine Az O O O JZ O (λh' o=>Bv (St.all h') bi aq) (AB O (BV O (AJ O ?_)))
     cases i
     exact AU O
    have i:=GA ap i
    cases i
    exact Aa O O
   refine AA O ?_
   obtain⟨ar,j,E⟩:=bd E
   refine AV 5 32 (.bool ar) ?_ ?_
   ·cases au:ao
    ·have j:=GB au j
     refine AB O (AC W7 O (AB O (AS Bb g O mh O Ag O (AB O ?_))))
     obtain⟨ck,av,j⟩:=bd j
     refine Az O O O Hn O (λh' o=>Bp (St.all h') bj (iq (n:=0) O) (iq (n:=24) O) av) (AB O (BV O (AJ O ?_)))
     cases j
     exact AU O
    have j:=GA au j
    cases j
    exact Aa O O
   refine AA O ?_
   obtain⟨aw,k,E⟩:=bd E
   refine AV 5 38 (.bool aw) ?_ ?_
   ·cases ax:ar
    ·have k:=GB ax k
     refine AB O (AC W6 O (AB O (AS Bb g O mh O Ag O (AB O ?_))))
     obtain⟨cl,ay,k⟩:=bd k
     refine Az O O O Hn O (λh' o=>Bp (St.all h') bk (iq (n:=0) O) (iq (n:=1073741824) O) ay) (AB O (BV O (AJ O ?_)))
     cases k
     exact AU O
    have k:=GA ax k
    cases k
    exact Aa O O
   refine AA O ?_
   obtain⟨az,m,E⟩:=bd E
   refine AV 5 44 (.bool az) ?_ ?_
   ·cases a0:aw
    ·have m:=GB a0 m
     refine AB O (AC W5 O (AB O (AS Bb g O mh O Ag O (AB O ?_))))
     obtain⟨cm,a1,m⟩:=bd m
     refine Az O O O JZ O (λh' o=>Bv (St.all h') bl a1) (AB O (BV O (AJ O ?_)))
     cases m
     exact AU O
    have m:=GA a0 m
    cases m
    exact Aa O O
   refine AA O ?_
   obtain⟨br,p,E⟩:=bd E
   refine AV 5 50 (.bool br) ?_ ?_
   ·cases a2:az
    ·have p:=GB a2 p
     refine AB O (AC W4 O (AB O (AS Bb g O mh O Ag O (AB O ?_))))
     obtain⟨cn,a3,p⟩:=bd p
     refine Az O O O Hn O (λh' o=>Bp (St.all h') bm (iq (n:=0) O) (iq (n:=128) O) a3) (AB O (BV O (AJ O ?_)))
     cases p
     exact AU O
    have p:=GA a2 p
    cases p
    exact Aa O O
   refine BJ (kp [50,9,8,1,10] O) λco M a4=>AX O E (λbs E=>?_) (λbs E=>?_)
   ·refine AI (AL O (kp [2] O) (Ac (λt u b c=>?_)))
    have a5:=M.drop .head
    cases E
    exact Dm b c O O (e5.trans (A.trans (J.trans (X.trans a4)))) ⟨O,a5⟩
   refine AT (BK (BY (.inl O) (Af O (AA O (AN (kp [10,9,8,1] O) (WF.nil (λt u b c=>?_)))))))
   have a6:=M.drop .head
   exact⟨(BC (y+1)),_,_,b.sub (kp [9,8,1,10] O),c,a6,(A.trans (J.trans (X.trans a4))),(BI _),E⟩
  refine A9 O (λt u b c=>?_)
  exact⟨_,_,b.sub (kp [1] O),c,z,A,E⟩
 rintro t u ⟨Y,Z,b,c,Q,ab,E⟩
 refine Ad ?_ b c
 clear b c u t
 rw[DF] at E
 refine AD (AI (Ai O (k6.mono ab) IK PL O λcp bt=>An A6 Q.1 O bt T9 O λbu a7=>Al O a7 Qc O λcq=>AA O (AN (kp [55,54,53] O) (Am (λa w=>IV B Y Z (64,[]) a w [] (L) λ_ _=>Eb N=some r) ?_ ?_))))
 ·refine A3 (λn3=>λa w=>∃(C:Int),IV B Y Z (64,[]) a w [(54,vI (↑d.Shelters.length:Int)),(53,bu),(55,vI C)] (L) λ_ _=>AG C∧DD N d (Eb N) n3 C=some r) N ?_ ?_ ?_
  ·intro t u b c
   exact⟨0,_,_,b.sub (kp [54,53,55] O),c,Q,(B9.refl Y Z),(iq (n:=0) O),E⟩
  ·rintro t u ⟨_,_,_,_,_,_,_,_,E⟩
   rw[DD] at E;cases E
  rintro n3 t u ⟨C,cr,cs,b,c,D,K,ct,E⟩
  refine Ad ?_ b c
  clear b c u t
  rw[DD] at E
  refine AI (Aq O (AN (kp [56,54,53,55] O) (AD (AX O E (λbv E=>?_) (λbv E=>?_)))))
  ·refine AT (AD (A5 (WF.sl (AH 2 ?_))))
   obtain⟨U,ac,E⟩:=bd E
   refine BD O O (a7.mono' K) Qc ac O λbw a8=>B4 A6 D.1 O a8 Q7 (λe=>by cases e) O λbx a9=>AF (Cs Vj O D λbz b0 ad F=>?_)
   obtain⟨rfl,⟨b1,ba⟩⟩:=Cr.ex (a9.mono F)
   refine Dh (vs:=[.string U.Name,vI U.Room]) O O O O Q7 O ad .head O λb2 G V=>AZ (kp [6,54,53,55] O) (AD (Bl (.inl O) G (AC W2 O (AS Bb G O mh O Ag O ?_))))
   obtain⟨b3,ae,E⟩:=bd E
   refine Az O O O Hn O (λh' o=>Bp (St.all h') ba (iq (n:=0) O) (iq (n:=1073741824) O) ae) (BV O (BJ (kp [62,54,53,55] O) λb4 H W=>AX O E (λbb E=>?_) (λbb E=>?_)))
   ·refine AI (AL O (kp [2] O) (Ac (λt u b c=>?_)))
    have af:=H.drop .head
    cases E
    exact Dm b c O O (e5.trans (ab.trans (K.trans (F.trans (V.trans W))))) ⟨O,af⟩
   refine AT (BK (BY (.inl O) (Af O (AA O (AN (kp [55,54,53] O) (WF.nil (λt u b c=>?_)))))))
   have ag:=H.drop .head
   exact⟨(BC (C+1)),_,_,b.sub (kp [54,53,55] O),c,ag,(K.trans (F.trans (V.trans W))),(BI _),E⟩
  refine A9 O (λt u b c=>?_)
  exact⟨_,_,b.sub Ou,c,D,K,E⟩
 rintro t u ⟨b5,b6,b,c,ah,bc,E⟩
 refine Ad ?_ b c
 clear b c u t
 rw[Eb] at E
 refine AI (AL O (kp [2] O) (Ac (λt u b c=>?_)))
 cases E
 exact Dm b c O O (e5.trans (ab.trans bc)) ⟨O,ah⟩
theorem L9 (hs:St S L h) {g:Value}{b:AW}(G:Rd S h B3 g b) {r:Bool}(E:GS N b=some r):
 CG Tryz.prog 54 #[g] S h (λv S' h'=>v= .bool r∧St S' (L) h'):=by
 refine BB (l:=[g]) 47 Tryz.func54 O Tryz.ntmps54 O λB=>?_
 rw[GS] at E
 refine WF.sl (B5 O G (λe=>by cases e) O hs λq1 S2 h3 M e5 k6=>AH 1 (AY O (AF (AZ (kp [1] O) (AD (AI (Ai O k6 KD Rl O λq7 k8=>An A6 M.1 O k8 Vu O λv9 Q=>Al O Q SS O λbc=>AA O (AN (kp [9,8,7,1] O) (Am (λa w=>IV B S2 h3 (47,[]) a w [] (L) λ_ _=>EL N=some r) ?_ ?_)))))))))
 ·refine A3 (λn1=>λa w=>∃(u:Int),IV B S2 h3 (47,[]) a w [(8,vI (↑b.Gauges.length:Int)),(7,v9),(1,q1),(9,vI u)] (L) λ_ _=>AG u∧C7 N b (EL N) n1 u=some r) N ?_ ?_ ?_
  ·intro D F i j
   exact⟨0,_,_,i.sub (kp [8,7,1,9] O),j,M,(B9.refl S2 h3),(iq (n:=0) O),E⟩
  ·rintro D F ⟨_,_,_,_,_,_,_,_,E⟩
   rw[C7] at E;cases E
  rintro n1 D F ⟨u,be,bf,i,j,x,t,bg,E⟩
  refine Ad ?_ i j
  clear i j F D
  rw[C7] at E
  refine AI (Aq O (AN (kp [10,8,7,1,9] O) (AD (AX O E (λao E=>?_) (λao E=>?_)))))
  ·refine AT (AD (A5 (WF.sl (AH 2 ?_))))
   obtain⟨y,U,E⟩:=bd E
   refine BD O O (Q.mono' t) SS U O λbh ap=>B4 A6 x.1 O ap Q6 (λe=>by cases e) O λbi aq=>AF (Cs Vi O x λbj bk V A=>?_)
   obtain⟨rfl,⟨bl,ar,au,av,aw⟩⟩:=EN.ex (aq.mono A)
   refine Dh (vs:=[.string y.Name,vI y.Kind,vI y.Target,vI y.Err,vI y.Drift]) O O O O Q6 O V .head O λbm m H=>AZ (kp [4,8,7,1,9] O) (AD (AD (Bl (.inl O) m (AC Sy O (AS Bb m O mh O Ag O ?_)))))
   obtain⟨ax,W,E⟩:=bd E
   refine Az O O O Hn O (λh' o=>Bp (St.all h') ar (iq (n:=0) O) (iq (n:=2) O) W) (BV O (AA O ?_))
   obtain⟨X,c,E⟩:=bd E
   refine AV 5 22 (.bool X) ?_ ?_
   ·cases Y:(!ax)
    ·have c:=GB Y c
     refine AB O (AC Wz O (AB O (AS Bb m O mh O Ag O (AB O ?_))))
     obtain⟨bn,Z,c⟩:=bd c
     refine Az O O O Hn O (λh' o=>Bp (St.all h') av (iq (n:=0) O) (iq (n:=1099511627776) O) Z) (AB O (BV O (AJ O ?_)))
     cases c
     exact AU O
    have c:=GA Y c
    cases c
    exact Aa O O
   refine AA O ?_
   obtain⟨ay,d,E⟩:=bd E
   refine AV 5 28 (.bool ay) ?_ ?_
   ·cases ab:X
    ·have d:=GB ab d
     refine AB O (AC Wy O (AB O (AS Bb m O mh O Ag O (AB O ?_))))
     obtain⟨bo,ac,d⟩:=bd d
     refine Az O O O Hn O (λh' o=>Bp (St.all h') aw (iq (n:=0) O) (iq (n:=1440) O) ac) (AB O (BV O (AJ O ?_)))
     cases d
     exact AU O
    have d:=GA ab d
    cases d
    exact Aa O O
   refine BJ (kp [28,4,8,7,1,9] O) λbp k I=>AX O E (λaz E=>?_) (λaz E=>?_)
   ·refine AI (AL O (kp [2] O) (Ac (λD F i j=>?_)))
    have ad:=k.drop .head
    cases E
    exact Dm i j O O (e5.trans (t.trans (A.trans (H.trans I)))) ⟨O,ad⟩
   refine AT (WF.sl (AH 9 ?_))
   have K:=k6.mono (t.trans (A.trans (H.trans I)))
   refine Ai O K BU DI O λbq a0=>An A6 k.1 O a0 GO O λbr a1=>Al O a1 qZ O λa2=>Ai O K Ks Rm O λbs a3=>Ah A6 k.1 O a3 Ag O λa4=>Ai O K Eo HA O λbt a5=>An A6 k.1 O a5 Ju O λbu a6=>Al O a6 H4 O λa7=>Yx (cs:=[vI (↑b.Places.length:Int),vI b.Cells,vI (↑b.Links.length:Int)]) bJ O O O (AF (Cs Zo O k λbv bw ae af=>Dh (vs:=[vI (↑b.Places.length:Int),vI b.Cells,vI (↑b.Links.length:Int)]) O O O O Zx O ae .head O λbx s ag=>AZ (kp [5,4,8,7,1,9] O) (AD (Bl (.inr ⟨mo,by kernel_rfl⟩) s (AC W0 O (AS Bb s O (mt mh) O Ag O (AC Sy O (AS Bb s O (mt mh) O Ag O ?_))))))))
   obtain⟨a8,C,E⟩:=bd E
   have ah:=eN C
   refine bX O O bH ah.1 ah.2 O (Yu (l:=([(↑b.Places.length:Int),b.Cells,(↑b.Links.length:Int)]:List Int)) (Value.int .i64) Bb s O mh O C Ag O ?_)
   have a9:AG a8:=eM (p:=λz=>AG z) (all_cons (JW a2) (all_cons a4 (all_cons (JW a7) Yf))) C
   obtain⟨bz,ai,E⟩:=bd E
   refine Az O O O Px O (λh' o=>GK (St.all h') au a9 ai) (BV O (BJ (kp [45,8,7,1,9] O) λb0 J aj=>AX O E (λba E=>?_) (λba E=>?_)))
   ·refine AI (AL O (kp [2] O) (Ac (λD F i j=>?_)))
    have ak:=J.sel [] 2 O
    cases E
    exact Dm i j O O (e5.trans (t.trans (A.trans (H.trans (I.trans (af.trans (ag.trans aj))))))) ⟨O,ak⟩
   refine AT (BK (BY (.inl O) (Af O (AA O (AN (kp [9,8,7,1] O) (WF.nil (λD F i j=>?_)))))))
   have am:=J.sel [] 2 O
   exact⟨(BC (u+1)),_,_,i.sub (kp [8,7,1,9] O),j,am,(t.trans (A.trans (H.trans (I.trans (af.trans (ag.trans aj)))))),(BI _),E⟩
  refine A9 O (λD F i j=>?_)
  exact⟨_,_,i.sub Ou,j,x,t,E⟩
 rintro D F ⟨b1,b2,i,j,an,bb,E⟩
 refine Ad ?_ i j
 clear i j F D
 rw[EL] at E
 refine AI (AL O (kp [2] O) (Ac (λD F i j=>?_)))
 cases E
 exact Dm i j O O (e5.trans bb) ⟨O,an⟩
theorem MV (hs:St S L h) {s:Value}{x:AW}(G:Rd S h B3 s x) {r:Bool}(E:Gq N x=some r):
 CG Tryz.prog 55 #[s] S h (λv S' h'=>v= .bool r∧St S' (L) h'):=by
 refine BB (l:=[s]) 80 Tryz.func55 O Tryz.ntmps55 O λB=>?_
 rw[Gq] at E
 refine WF.sl (B5 O G (λe=>by cases e) O hs λq1 S2 h3 X e5 k6=>AH 1 (AY O (AF (AZ (kp [1] O) (AD (AI (Ai O k6 Kr Rk O λq7 k8=>An A6 X.1 O k8 Vt O λv9 Y=>Al O Y SR O λbn=>AA O (AN (kp [8,7,6,1] O) (Am (λa w=>IV B S2 h3 (80,[]) a w [] (L) λ_ _=>Ec N=some r) ?_ ?_)))))))))
 ·refine A3 (λn1=>λa w=>∃(z:Int),IV B S2 h3 (80,[]) a w [(7,vI (↑x.Roads.length:Int)),(6,v9),(1,q1),(8,vI z)] (L) λ_ _=>AG z∧DG N x (Ec N) n1 z=some r) N ?_ ?_ ?_
  ·intro D F t u
   exact⟨0,_,_,t.sub (kp [7,6,1,8] O),u,X,(B9.refl S2 h3),(iq (n:=0) O),E⟩
  ·rintro D F ⟨_,_,_,_,_,_,_,_,E⟩
   rw[DG] at E;cases E
  rintro n1 D F ⟨z,bo,bp,t,u,A,y,bq,E⟩
  refine Ad ?_ t u
  clear t u F D
  rw[DG] at E
  refine AI (Aq O (AN (kp [9,7,6,1,8] O) (AD (AX O E (λaw E=>?_) (λaw E=>?_)))))
  ·refine AT (AD (A5 (WF.sl (AH 2 ?_))))
   obtain⟨b,Z,E⟩:=bd E
   refine BD O O (Y.mono' y) SR Z O λbr ax=>B4 A6 A.1 O ax Q5 (λe=>by cases e) O λbs ay=>AF (Cs Vh O A λbt bu ab C=>?_)
   obtain⟨rfl,⟨bv,az,a0,a1,a2,a3,a4⟩⟩:=F8.ex (ay.mono C)
   refine Dh (vs:=[.string b.Name,vI b.From,vI b.To,vI b.Hours,vI b.Flow,vI b.By,vI b.Limit]) O O O O Q5 O ab .head O λbw c H=>AZ (kp [4,7,6,1,8] O) (AD (AD (Bl (.inl O) c (AC Sx O (AS Bb c O mh O Ag O ?_)))))
   have I:=k6.mono (y.trans (C.trans H))
   refine Ai O I Ia Nv O λbx a5=>An Bb c.1 O a5 SH O λbz a6=>Al O a6 PW O λa7=>?_
   obtain⟨a8,ac,E⟩:=bd E
   refine Az O O O Px O (λh' o=>GK (St.all h') az (JW a7) ac) (BV O (AA O ?_))
   obtain⟨J,d,E⟩:=bd E
   refine AV 12 31 (.bool J) ?_ ?_
   ·cases ad:(!a8)
    ·have d:=GB ad d
     refine AB O (AC Sw O (AB O (AS Bb c O mh O Ag O (AB O (Ai O I Ia Nv O λb0 a9=>AB O (An Bb c.1 O a9 SH O λb1 ba=>AB O (Al O ba PW O λb2=>AB O (Ai O I IK PL O λb3 bb=>AB O (An Bb c.1 O bb T9 O λb4 bc=>AB O (Al O bc Qc O λb5=>AB O (Af O (AB O ?_))))))))))))
     obtain⟨b6,ae,d⟩:=bd d
     refine Az O O O Px O (λh' o=>GK (St.all h') a0 (BI _) ae) (AB O (BV O (AJ O ?_)))
     cases d
     exact AU O
    have d:=GA ad d
    cases d
    exact Aa O O
   refine AA O (AV 6 38 (.bool (J||(decide (b.From=b.To)))) ?_ ?_)
   ·cases b7:J
    ·exact AB O (AC Sx O (AB O (AS Bb c O mh O Ag O (AB O (AC Sw O (AB O (AS Bb c O mh O Ag O (AB O (BH O (AJ O (AU O)))))))))))
    exact Aa O O
   refine AA O ?_
   obtain⟨af,g,E⟩:=bd E
   refine AV 5 44 (.bool af) ?_ ?_
   ·cases ag:(J||(decide (b.From=b.To)))
    ·have g:=GB ag g
     refine AB O (AC Ww O (AB O (AS Bb c O mh O Ag O (AB O ?_))))
     obtain⟨b8,ah,g⟩:=bd g
     refine Az O O O Hn O (λh' o=>Bp (St.all h') a1 (iq (n:=1) O) (iq (n:=24) O) ah) (AB O (BV O (AJ O ?_)))
     cases g
     exact AU O
    have g:=GA ag g
    cases g
    exact Aa O O
   refine AA O ?_
   obtain⟨ai,i,E⟩:=bd E
   refine AV 5 50 (.bool ai) ?_ ?_
   ·cases aj:af
    ·have i:=GB aj i
     refine AB O (AC Wv O (AB O (AS Bb c O mh O Ag O (AB O ?_))))
     obtain⟨b9,ak,i⟩:=bd i
     refine Az O O O Hn O (λh' o=>Bp (St.all h') a2 (iq (n:=0) O) (iq (n:=1073741824) O) ak) (AB O (BV O (AJ O ?_)))
     cases i
     exact AU O
    have i:=GA aj i
    cases i
    exact Aa O O
   refine AA O ?_
   obtain⟨be,j,E⟩:=bd E
   refine AV 5 56 (.bool be) ?_ ?_
   ·cases am:ai
    ·have j:=GB am j
     refine AB O (AC Sv O (AB O (AS Bb c O mh O Ag O (AB O ?_))))
     obtain⟨ca,an,j⟩:=bd j
     refine Az O O O JZ O (λh' o=>Bv (St.all h') a4 an) (AB O (BV O (AJ O ?_)))
     cases j
     exact AU O
    have j:=GA am j
    cases j
    exact Aa O O
   refine BJ (kp [56,4,7,6,1,8] O) λcb p K=>AX O E (λbf E=>?_) (λbf E=>?_)
   ·refine AI (AL O (kp [2] O) (Ac (λD F t u=>?_)))
    have ao:=p.drop .head
    cases E
    exact Dm t u O O (e5.trans (y.trans (C.trans (H.trans K)))) ⟨O,ao⟩
   refine AT (AD (Bl (.inl O) p (AC Pp O (AS Bb p O mh O Ag O (BH O (AA O (AV 4 64 (.bool ((decide (b.By=(-1)))&&(decide (b.Limit≠0)))) ?_ ?_)))))))
   ·cases cc:(decide (b.By=(-1)))
    ·exact Aa O O
    exact AB O (AC Sv O (AB O (AS Bb p O mh O Ag O (AB O (Bc O (AJ O (AU O)))))))
   refine AA O ?_
   obtain⟨bg,k,E⟩:=bd E
   refine AV 13 78 (.bool bg) ?_ ?_
   ·cases ap:((decide (b.By=(-1)))&&(decide (b.Limit≠0)))
    ·have k:=GB ap k
     refine AB O (AC Pp O (AB O (AS Bb p O mh O Ag O (AB O (Bc O (AB O (AA O ?_)))))))
     obtain⟨bh,m,k⟩:=bd k
     refine AV 8 77 (.bool bh) ?_ ?_
     ·cases aq:(decide (b.By≠(-1)))
      ·have m:=GB aq m
       cases m
       exact Aa O O
      have m:=GA aq m
      refine AB O (AC Pp O (AB O (AS Bb p O mh O Ag O (AB O (Ai O (I.mono K) BU DI O λcd bi=>AB O (An Bb p.1 O bi GO O λce bj=>AB O (Al O bj qZ O λbk=>AB O ?_)))))))
      obtain⟨cf,ar,m⟩:=bd m
      refine Az O O O Px O (λh' o=>GK (St.all h') a3 (JW bk) ar) (AB O (BV O (AB O (AJ O ?_))))
      cases m
      exact AU O
     refine AJ O ?_
     cases k
     exact AU O
    have k:=GA ap k
    cases k
    exact Aa O O
   refine BJ (kp [78,7,6,1,8] O) λcg M Q=>AX O E (λau E=>?_) (λau E=>?_)
   ·refine AI (AL O (kp [2] O) (Ac (λD F t u=>?_)))
    have U:=M.drop .head
    cases E
    exact Dm t u O O (e5.trans (y.trans (C.trans (H.trans (K.trans Q))))) ⟨O,U⟩
   refine AT (BK (BY (.inl O) (Af O (AA O (AN (kp [8,7,6,1] O) (WF.nil (λD F t u=>?_)))))))
   have V:=M.drop .head
   exact⟨(BC (z+1)),_,_,t.sub (kp [7,6,1,8] O),u,V,(y.trans (C.trans (H.trans (K.trans Q)))),(BI _),E⟩
  refine A9 O (λD F t u=>?_)
  exact⟨_,_,t.sub Ou,u,A,y,E⟩
 rintro D F ⟨bl,bm,t,u,W,av,E⟩
 refine Ad ?_ t u
 clear t u F D
 rw[Ec] at E
 refine AI (AL O (kp [2] O) (Ac (λD F t u=>?_)))
 cases E
 exact Dm t u O O (e5.trans av) ⟨O,W⟩
theorem Lw (hs:St S L h) {n:Value}{t:AW}(p:Rd S h B3 n t) {r:Bool}(E:ID N t=some r):
 CG Tryz.prog 27 #[n] S h (λv S' h'=>v= .bool r∧St S' (L) h'):=by
 refine BB (l:=[n]) 37 Tryz.func27 O Tryz.ntmps27 O λB=>?_
 rw[ID] at E
 refine WF.sl (B5 O p (λe=>by cases e) O hs λq1 S2 h3 a e5 s=>AH 1 (AY O (AF (AZ (kp [1] O) (AD (Bl (.inl O) a (B4 Bb a.1 O s G8 (λe=>by cases e) O λv7 k8=>?_)))))))
 obtain⟨y9,ad,E⟩:=bd E
 refine Az O O O gI O (λh' o=>M6 (St.all h') (k8.mono (o.all a.1)) ad) (AA O ?_)
 obtain⟨u,b,E⟩:=bd E
 refine AV 3 8 (.bool u) ?_ ?_
 ·cases w:y9
  ·have b:=GB w b
   cases b
   exact Aa O O
  have b:=GA w b
  refine AB O (B4 Bb a.1 O s G8 (λe=>by cases e) O λao ae=>AB O ?_)
  obtain⟨ap,x,b⟩:=bd b
  refine Az O O O gH O (λh' o=>MW (St.all h') (ae.mono (o.all a.1)) x) (AJ O ?_)
  cases b
  exact AU O
 refine AA O ?_
 obtain⟨y,c,E⟩:=bd E
 refine AV 3 12 (.bool y) ?_ ?_
 ·cases z:u
  ·have c:=GB z c
   cases c
   exact Aa O O
  have c:=GA z c
  refine AB O (B4 Bb a.1 O s G8 (λe=>by cases e) O λaq af=>AB O ?_)
  obtain⟨ar,A,c⟩:=bd c
  refine Az O O O gG O (λh' o=>L8 (St.all h') (af.mono (o.all a.1)) A) (AJ O ?_)
  cases c
  exact AU O
 refine AA O ?_
 obtain⟨C,d,E⟩:=bd E
 refine AV 3 16 (.bool C) ?_ ?_
 ·cases D:y
  ·have d:=GB D d
   cases d
   exact Aa O O
  have d:=GA D d
  refine AB O (B4 Bb a.1 O s G8 (λe=>by cases e) O λau ag=>AB O ?_)
  obtain⟨av,F,d⟩:=bd d
  refine Az O O O gE O (λh' o=>MX (St.all h') (ag.mono (o.all a.1)) F) (AJ O ?_)
  cases d
  exact AU O
 refine AA O ?_
 obtain⟨G,g,E⟩:=bd E
 refine AV 3 20 (.bool G) ?_ ?_
 ·cases H:C
  ·have g:=GB H g
   cases g
   exact Aa O O
  have g:=GA H g
  refine AB O (B4 Bb a.1 O s G8 (λe=>by cases e) O λaw ah=>AB O ?_)
  obtain⟨ax,I,g⟩:=bd g
  refine Az O O O gC O (λh' o=>Lp (St.all h') (ah.mono (o.all a.1)) I) (AJ O ?_)
  cases g
  exact AU O
 refine AA O ?_
 obtain⟨J,i,E⟩:=bd E
 refine AV 3 24 (.bool J) ?_ ?_
 ·cases K:G
  ·have i:=GB K i
   cases i
   exact Aa O O
  have i:=GA K i
  refine AB O (B4 Bb a.1 O s G8 (λe=>by cases e) O λay ai=>AB O ?_)
  obtain⟨az,M,i⟩:=bd i
  refine Az O O O gB O (λh' o=>L7 (St.all h') (ai.mono (o.all a.1)) M) (AJ O ?_)
  cases i
  exact AU O
 refine AA O ?_
 obtain⟨Q,j,E⟩:=bd E
 refine AV 3 28 (.bool Q) ?_ ?_
 ·cases U:J
  ·have j:=GB U j
   cases j
   exact Aa O O
  have j:=GA U j
  refine AB O (B4 Bb a.1 O s G8 (λe=>by cases e) O λa0 aj=>AB O ?_)
  obtain⟨a1,V,j⟩:=bd j
  refine Az O O O fZ O (λh' o=>MU (St.all h') (aj.mono (o.all a.1)) V) (AJ O ?_)
  cases j
  exact AU O
 refine AA O ?_
 obtain⟨W,k,E⟩:=bd E
 refine AV 3 32 (.bool W) ?_ ?_
 ·cases X:Q
  ·have k:=GB X k
   cases k
   exact Aa O O
  have k:=GA X k
  refine AB O (B4 Bb a.1 O s G8 (λe=>by cases e) O λa2 ak=>AB O ?_)
  obtain⟨a3,Y,k⟩:=bd k
  refine Az O O O fY O (λh' o=>L9 (St.all h') (ak.mono (o.all a.1)) Y) (AJ O ?_)
  cases k
  exact AU O
 refine AA O ?_
 obtain⟨al,m,E⟩:=bd E
 refine AV 3 36 (.bool al) ?_ ?_
 ·cases Z:W
  ·have m:=GB Z m
   cases m
   exact Aa O O
  have m:=GA Z m
  refine AB O (B4 Bb a.1 O s G8 (λe=>by cases e) O λa4 am=>AB O ?_)
  obtain⟨a5,ab,m⟩:=bd m
  refine Az O O O fX O (λh' o=>MV (St.all h') (am.mono (o.all a.1)) ab) (AJ O ?_)
  cases m
  exact AU O
 refine AY O (BJ (kp [2] O) λa6 ac an=>Ac (λaa ww hf hw=>?_))
 cases E
 exact Dm hf hw O O (e5.trans an) ⟨O,ac⟩
theorem ML (hs:St S L h) {b:Value}{g:(List Int)}(i:Sl S h AM.int b g) {r:Bool}(E:HE N g=some r):
 CG Tryz.prog 91 #[b] S h (λv S' h'=>v= .bool r∧St S' (L) h'):=by
 refine BB (l:=[b]) 24 Tryz.func91 O Tryz.ntmps91 O λB=>?_
 rw[HE] at E
 refine AI (AL O (kp [0] O) (AI (AL O (kp [3,0] O) (AD (AI (AA O (Al O i BG O λM=>AA O (AN (kp [8,7,6,3] O) (Am (λa w=>IV B S h (24,[]) a w [] (L) λ_ _=>Fb N=some r) ?_ ?_)))))))))
 ·refine A3 (λC=>λa w=>∃(q:Int) (s:Int),IV B S h (24,[]) a w [(7,vI (↑g.length:Int)),(6,b),(3,vI q),(8,vI s)] (L) λ_ _=>AG q∧AG s∧Dj N g (Fb N) C q s=some r) N ?_ ?_ ?_
  ·intro k m c d
   exact⟨0,0,_,_,c.sub (kp [7,6,3,8] O),d,hs,(B9.refl S h),(iq (n:=0) O),(iq (n:=0) O),E⟩
  ·rintro k m ⟨_,_,_,_,_,_,_,_,_,_,E⟩
   rw[Dj] at E;cases E
  rintro C k m ⟨q,s,D,F,c,d,j,o,Q,U,E⟩
  refine Ad ?_ c d
  clear c d m k
  rw[Dj] at E
  refine AI (Aq O (AN (kp [9,7,6,3,8] O) (AD (AX O E (λx E=>?_) (λx E=>?_)))))
  ·refine AT (AD (A5 (AI ?_)))
   obtain⟨p,t,E⟩:=bd E
   refine BD O O (i.mono' o) BG t O λG y=>Ah A6 j.1 O y Ag O λH=>AL O (kp [5,7,6,3,8] O) (AD (AI (AA O (Aq O (AA O (AV 5 19 (.bool ((decide (p<0))||(decide ((BC (1125899906842624-q))<p)))) ?_ ?_))))))
   ·cases I:(decide (p<0))
    ·exact AB O (AA O (AB O (AA O (AB O (Cg O (AB O (Bh O (AJ O (AU O)))))))))
    exact Aa O O
   refine AN (kp [19,5,7,6,3,8] O) (AX O E (λz E=>?_) (λz E=>?_))
   ·refine AI (AL O (kp [2] O) (Ac (λk m c d=>?_)))
    cases E
    exact Dm c d O O o ⟨O,j⟩
   refine AT (BY (.inl O) (AA O (AA O (Af O (AL O (kp [3,7,6,8] O) (BK (BY (.inl O) (Af O (AA O (AN (kp [8,3,7,6] O) (WF.nil (λk m c d=>?_))))))))))))
   exact⟨(BC (q+p)),(BC (s+1)),_,_,c.sub (kp [7,6,3,8] O),d,j,o,(BI _),(BI _),E⟩
  refine A9 O (λk m c d=>?_)
  exact⟨_,_,c.sub Ou,d,j,o,E⟩
 rintro k m ⟨J,K,c,d,u,A,E⟩
 refine Ad ?_ c d
 clear c d m k
 rw[Fb] at E
 refine AI (AL O (kp [2] O) (Ac (λk m c d=>?_)))
 cases E
 exact Dm c d O O A ⟨O,u⟩
theorem MM (hs:St S L h) {b:Value}{d:(List Int)}(g:Sl S h AM.int b d) {a:Int}(i:AG a) {r:Bool}(E:Ie N d a=some r):
 CG Tryz.prog 67 #[b,vI a] S h (λv S' h'=>v= .bool r∧St S' (L) h'):=by
 refine BB (l:=[b,vI a]) 21 Tryz.func67 O Tryz.ntmps67 O λB=>?_
 rw[Ie] at E
 refine AI (AL O (kp [0,1] O) (AD (Bl (.inl O) hs (AA O (Gv O (AA O (AV 3 10 (.bool ((decide (0≤a))&&(decide (a≤16)))) ?_ ?_)))))))
 ·cases t:(decide (0≤a))
  ·exact Aa O O
  exact AB O (AA O (AB O (Ft O (AJ O (AU O)))))
 refine AA O (AV 5 16 (.bool (((decide (0≤a))&&(decide (a≤16)))&&(decide ((↑d.length:Int)=a)))) ?_ ?_)
 ·cases u:((decide (0≤a))&&(decide (a≤16)))
  ·exact Aa O O
  exact AB O (AA O (AB O (Al O g BG O λw=>AB O (AA O (AB O (BH O (AJ O (AU O))))))))
 refine AA O ?_
 obtain⟨p,c,E⟩:=bd E
 refine AV 3 20 (.bool p) ?_ ?_
 ·cases n:(((decide (0≤a))&&(decide (a≤16)))&&(decide ((↑d.length:Int)=a)))
  ·have c:=GB n c
   cases c
   exact Aa O O
  have c:=GA n c
  refine AB O (AA O (AB O ?_))
  obtain⟨x,j,c⟩:=bd c
  refine Az O O O ZZ O (λh' o=>ML (St.all h') (g.mono' (o.all hs.1)) j) (AJ O ?_)
  cases c
  exact AU O
 refine AY O (BJ (kp [4] O) λy k m=>Ac (λz A q s=>?_))
 cases E
 exact Dm q s O O m ⟨O,k⟩
theorem IE (hs:St S L h) {b:Int}(g:AG b) {a:Int}(i:AG a) {r:Int}(E:Fe N b a=some r):
 CG Tryz.prog 36 #[vI b,vI a] S h (λv S' h'=>v=vI r∧AG r∧St S' (L) h'):=by
 refine BB (l:=[vI b,vI a]) 24 Tryz.func36 O Tryz.ntmps36 O λB=>?_
 rw[Fe] at E
 refine AI (AL O (kp [0,1] O) (AD (AI (AA O (Bh O (AA O (AV 5 12 (.bool ((decide (0<a))&&(decide ((BC (9223372036854775807-a))<b)))) ?_ ?_)))))))
 ·cases p:(decide (0<a))
  ·exact Aa O O
  exact AB O (AA O (AB O (AA O (AB O (Cg O (AB O (Bh O (AJ O (AU O)))))))))
 refine AN (kp [12,0,1] O) (AX O E (λm E=>?_) (λm E=>?_))
 ·refine AI (AL O (kp [4] O) (Ac (λj k c d=>?_)))
  cases E
  exact Dm c d O O (B9.refl S h) ⟨O,(iq (n:=9223372036854775807) O),hs⟩
 refine AT (AD (AI (AA O (Aq O (AA O (AV 5 20 (.bool ((decide (a<0))&&(decide (b<(BC ((-9223372036854775808)-a)))))) ?_ ?_))))))
 ·cases q:(decide (a<0))
  ·exact Aa O O
  exact AB O (AA O (AB O (AA O (AB O (Cg O (AB O (Aq O (AJ O (AU O)))))))))
 refine AN (kp [20,0,1] O) (AX O E (λo E=>?_) (λo E=>?_))
 ·refine AI (AL O (kp [4] O) (Ac (λj k c d=>?_)))
  cases E
  exact Dm c d O O (B9.refl S h) ⟨O,(iq (n:=(-9223372036854775808)) O),hs⟩
 refine AT (AI (AA O (AA O (Af O (AL O (kp [4] O) (Ac (λj k c d=>?_)))))))
 cases E
 exact Dm c d O O (B9.refl S h) ⟨O,(BI _),hs⟩
theorem Ef (hs:St S L h) {b:Value}{c:(List Int)}(d:Sl S h AM.int b c) {r:Int}(E:Db N c=some r):
 CG Tryz.prog 59 #[b] S h (λv S' h'=>v=vI r∧AG r∧St S' (L) h'):=by
 refine BB (l:=[b]) 17 Tryz.func59 O Tryz.ntmps59 O λB=>?_
 rw[Db] at E
 refine AI (AL O (kp [0] O) (AI (AL O (kp [3,0] O) (AD (AI (AA O (Al O d BG O λb1=>AA O (AN (kp [8,7,6,3] O) (Am (λa w=>∃(z:Int),IV B S h (17,[]) a w [(3,vI z)] (L) λ_ _=>AG z∧G3 N z=some r) ?_ ?_)))))))))
 ·refine A3 (λK=>λa w=>∃(s:Int) (j:Int),IV B S h (17,[]) a w [(7,vI (↑c.length:Int)),(6,b),(3,vI s),(8,vI j)] (L) λ_ _=>AG s∧AG j∧Fc N c (G3 N) K s j=some r) N ?_ ?_ ?_
  ·intro m p g i
   exact⟨0,0,_,_,g.sub (kp [7,6,3,8] O),i,hs,(B9.refl S h),(iq (n:=0) O),(iq (n:=0) O),E⟩
  ·rintro m p ⟨_,_,_,_,_,_,_,_,_,_,E⟩
   rw[Fc] at E;cases E
  rintro K m p ⟨s,j,Q,U,g,i,k,q,M,V,E⟩
  refine Ad ?_ g i
  clear g i p m
  rw[Fc] at E
  refine AI (Aq O (AN (kp [9,7,6,3,8] O) (AD (AX O E (λA E=>?_) (λA E=>?_)))))
  ·refine AT (AD (A5 (AI ?_)))
   obtain⟨W,t,E⟩:=bd E
   refine BD O O (d.mono' q) BG t O λX C=>Ah A6 k.1 O C Ag O λD=>AL O (kp [5,7,6,3,8] O) (Bl (.inl O) k (AA O (AA O ?_)))
   obtain⟨F,u,E⟩:=bd E
   refine CE O O O Qt O (λh' o=>IE (St.all h') M D u) λG=>?_
   have H:=G
   refine AY O (BJ (kp [3,7,6,8] O) λY x I=>BK (BY (.inl O) (Af O (AA O (AN (kp [8,3,7,6] O) (WF.nil (λm p g i=>?_)))))))
   exact⟨F,(BC (j+1)),_,_,g.sub (kp [7,6,3,8] O),i,x,(q.trans I),H,(BI _),E⟩
  refine A9 O (λm p g i=>?_)
  exact⟨s,_,_,g.sub (kp [3] O),i,k,q,M,E⟩
 rintro m p ⟨z,Z,ab,g,i,y,J,r3,E⟩
 refine Ad ?_ g i
 clear g i p m
 rw[G3] at E
 refine AI (AA O (AL O (kp [2] O) (Ac (λm p g i=>?_))))
 cases E
 exact Dm g i O O J ⟨O,r3,y⟩
theorem Fv (hs:St S L h) {b:Int}(d:AG b) {a:Int}(c:AG a) {r:Bool}(E:FU N b a=some r):
 CG Tryz.prog 57 #[vI b,vI a] S h (λv S' h'=>v= .bool r∧St S' (L) h'):=by
 refine BB (l:=[vI b,vI a]) 12 Tryz.func57 O Tryz.ntmps57 O λB=>?_
 rw[FU] at E
 refine AI (AL O (kp [0,1] O) (AI (AA O (Gv O (AA O (AV 4 11 (.bool ((decide (0≤b))&&(decide (b<a)))) ?_ ?_))))))
 ·cases j:(decide (0≤b))
  ·exact Aa O O
  exact AB O (AA O (AB O (AA O (AB O (Aq O (AJ O (AU O)))))))
 refine AL O (kp [4] O) (Ac (λk m g i=>?_))
 cases E
 exact Dm g i O O (B9.refl S h) ⟨O,hs⟩
theorem Om (hs:St S L h) {t:Value}{m:AW}(Z:Rd S h B3 t m) {u:Value}{j:Ak}(ab:Rd S h CJ u j) {r:Int×Bool}(E:Iq N m j=some r):
 CG Tryz.prog 37 #[t,u] S h (λv S' h'=>v= .tuple #[vI r.1,.bool r.2]∧AG r.1∧St S' (L) h'):=by
 refine BB (l:=[t,u]) 76 Tryz.func37 O Tryz.ntmps37 O λB=>?_
 rw[Iq] at E
 refine WF.sl (B5 O Z (λe=>by cases e) O hs λq1 S2 h3 bo e5 k6=>B5 O (ab.mono e5) (λe=>by cases e) O bo λq8 S9 an ae y az=>AH 2 (AY O (AY O (AF (AZ (kp [3,2] O) (AI (AL O (kp [6,3,2] O) (AD (AI (Ai O az JS D4 O λcq bp=>An A6 ae.1 O bp HN O λbq a0=>Al O a0 FO O λcr=>AA O (AN (kp [15,14,13,6,3,2] O) (Am (λa w=>∃(K:Int),IV B S9 an (76,[]) a w [(3,q8),(2,q1),(6,vI K)] (L) λ_ _=>AG K∧EC N m j K=some r) ?_ ?_))))))))))))
 ·refine A3 (λn1=>λa w=>∃(H:Int) (M:Int),IV B S9 an (76,[]) a w [(14,vI (↑j.Own.length:Int)),(13,bq),(3,q8),(2,q1),(6,vI H),(15,vI M)] (L) λ_ _=>AG H∧AG M∧EB N m j (EC N m j) n1 H M=some r) N ?_ ?_ ?_
  ·intro p s b i
   exact⟨0,0,_,_,b.sub (kp [14,13,3,2,6,15] O),i,ae,(B9.refl S9 an),(iq (n:=0) O),(iq (n:=0) O),E⟩
  ·rintro p s ⟨_,_,_,_,_,_,_,_,_,_,E⟩
   rw[EB] at E;cases E
  rintro n1 p s ⟨H,M,cs,ct,b,i,z,I,br,cu,E⟩
  refine Ad ?_ b i
  clear b i s p
  rw[EB] at E
  refine AI (Aq O (AN (kp [16,14,13,3,2,6,15] O) (AD (AX O E (λbs E=>?_) (λbs E=>?_)))))
  ·refine AT (AD (A5 (AI ?_)))
   obtain⟨cv,a1,E⟩:=bd E
   refine BD O O (a0.mono' I) FO a1 O λcw bt=>An A6 z.1 O bt BP O λcx a2=>AL O (kp [8,14,13,3,2,6,15] O) (AD (AD (Bl (.inl O) z (AA O (Ai O (k6.mono (y.trans I)) Dl HS O λcy bu=>An Bb z.1 O bu KE O λcz bv=>Al O bv Jv O λbw=>?_)))))
   obtain⟨c0,a3,E⟩:=bd E
   refine Az O O O Ze O (λh' o=>MM (St.all h') (a2.mono' (o.all z.1)) (JW bw) a3) (BV O (BJ (kp [24,8,14,13,3,2,6,15] O) λc1 Q ac=>AX O E (λbx E=>?_) (λbx E=>?_)))
   ·refine AI (AY O (AL O (kp [5,4] O) (Ac (λp s b i=>?_))))
    cases E
    exact J9 b O i (IC (Im b (v:=_) O) (IC (Im b (v:=_) O) J8)) O (e5.trans (y.trans (I.trans ac))) ⟨O,(iq (n:=0) O),Q⟩
   refine AT (AD (Bl (.inl O) Q (AA O (AA O ?_))))
   obtain⟨bz,a4,E⟩:=bd E
   refine CE O O O NC O (λh' o=>Ef (St.all h') ((a2.mono' ac).mono' (o.all Q.1)) a4) λb0=>?_
   have c2:=b0
   refine Af O (AY O (BJ (kp [6,14,13,3,2,15] O) λc3 af a5=>AI (AA O (Bh O (AN (kp [30,6,14,13,3,2,15] O) (AX O E (λb1 E=>?_) (λb1 E=>?_)))))))
   ·refine AI (AY O (AL O (kp [5,4] O) (Ac (λp s b i=>?_))))
    cases E
    exact J9 b O i (IC (Im b (v:=_) O) (IC (Im b (v:=_) O) J8)) O (e5.trans (y.trans (I.trans (ac.trans a5)))) ⟨O,(iq (n:=0) O),af⟩
   refine AT (BK (BY (.inl O) (Af O (AA O (AN (kp [15,6,14,13,3,2] O) (WF.nil (λp s b i=>?_)))))))
   exact⟨(BC (H+bz)),(BC (M+1)),_,_,b.sub (kp [14,13,3,2,6,15] O),i,af,(I.trans (ac.trans a5)),(BI _),(BI _),E⟩
  refine A9 O (λp s b i=>?_)
  exact⟨H,_,_,b.sub (kp [3,2,6] O),i,z,I,br,E⟩
 rintro p s ⟨K,ao,ap,b,i,ag,J,b2,E⟩
 refine Ad ?_ b i
 clear b i s p
 rw[EC] at E
 refine AD (AI ?_)
 have a6:=az.mono J
 refine Ai O a6 IZ Jl O λc4 b3=>An A6 ag.1 O b3 LG O λb4 a7=>Al O a7 JX O λc5=>AA O (AN (kp [35,34,33,3,2,6] O) (Am (λa w=>∃(ad:Int),IV B ao ap (76,[]) a w [(6,vI ad)] (L) λ_ _=>AG ad∧Ge N ad=some r) ?_ ?_))
 ·refine A3 (λn3=>λa w=>∃(C:Int) (U:Int),IV B ao ap (76,[]) a w [(34,vI (↑j.Queue.length:Int)),(33,b4),(3,q8),(2,q1),(6,vI C),(35,vI U)] (L) λ_ _=>AG C∧AG U∧E2 N m j (Ge N) n3 C U=some r) N ?_ ?_ ?_
  ·intro p s b i
   exact⟨K,0,_,_,b.sub (kp [34,33,3,2,6,35] O),i,ag,(B9.refl ao ap),b2,(iq (n:=0) O),E⟩
  ·rintro p s ⟨_,_,_,_,_,_,_,_,_,_,E⟩
   rw[E2] at E;cases E
  rintro n3 p s ⟨C,U,c6,c7,b,i,V,A,b5,c8,E⟩
  refine Ad ?_ b i
  clear b i s p
  rw[E2] at E
  refine AI (Aq O (AN (kp [36,34,33,3,2,6,35] O) (AD (AX O E (λb6 E=>?_) (λb6 E=>?_)))))
  ·refine AT (AD (A5 (WF.sl (AH 2 ?_))))
   obtain⟨W,a8,E⟩:=bd E
   refine BD O O (a7.mono' A) JX a8 O λc9 b7=>B4 A6 V.1 O b7 Ku (λe=>by cases e) O λda b8=>AF (Cs QT O V λdb dc a9 D=>?_)
   obtain⟨ah,rfl,ca,ba,X⟩:=Ap.ex (b8.mono D)
   refine HJ (vs:=[vI W.At,vI W.To,ah]) (cs':=[vI W.At,vI W.To,ah]) O O O (AE O (AE O (AE X.one EA))) Ku O a9 .head O O λcb c k=>AZ (kp [10,34,33,3,2,6,35] O) (AD (AD (Bl (.inl O) c (AC Nt O (AS Bb c O mh O Ag O (Ai O (a6.mono (A.trans (D.trans k))) Ak.f_Hour Id O λcc bb=>Ah Bb c.1 O bb Ag O λcd=>Aq O (AA O ?_)))))))
   obtain⟨ai,d,E⟩:=bd E
   refine AV 8 52 (.bool ai) ?_ ?_
   ·cases aj:(decide (W.At<j.Hour))
    ·have d:=GB aj d
     refine AB O (AC K0 O (AB O (AS Bb c O mh O Ag O (AB O (Ai O (k6.mono (y.trans (J.trans (A.trans (D.trans k))))) BU DI O λce bc=>AB O (An Bb c.1 O bc GO O λcf be=>AB O (Al O be qZ O λbf=>AB O ?_)))))))
     obtain⟨cg,aq,d⟩:=bd d
     refine Az O O O Oe O (λh' o=>Fv (St.all h') ba (JW bf) aq) (AB O (BV O (AJ O ?_)))
     cases d
     exact AU O
    have d:=GA aj d
    cases d
    exact Aa O O
   refine AA O ?_
   obtain⟨bg,g,E⟩:=bd E
   refine AV 8 61 (.bool bg) ?_ ?_
   ·cases ak:ai
    ·have g:=GB ak g
     refine AB O (AC Kz O (AB O (AS Bb c O mh O BP O (AB O (Ai O (k6.mono (y.trans (J.trans (A.trans (D.trans k))))) Dl HS O λch bh=>AB O (An Bb c.1 O bh KE O λci bi=>AB O (Al O bi Jv O λbj=>AB O ?_)))))))
     obtain⟨cj,ar,g⟩:=bd g
     refine Az O O O Ze O (λh' o=>MM (St.all h') ((X.mono' k).mono' (o.all c.1)) (JW bj) ar) (AB O (BV O (AJ O ?_)))
     cases g
     exact AU O
    have g:=GA ak g
    cases g
    exact Aa O O
   refine BJ (kp [61,10,34,33,3,2,6,35] O) λck x F=>AX O E (λbk E=>?_) (λbk E=>?_)
   ·refine AI (AY O (AL O (kp [5,4] O) (Ac (λp s b i=>?_))))
    have au:=x.drop .head
    cases E
    exact J9 b O i (IC (Im b (v:=_) O) (IC (Im b (v:=_) O) J8)) O (e5.trans (y.trans (J.trans (A.trans (D.trans (k.trans F)))))) ⟨O,(iq (n:=0) O),au⟩
   refine AT (AD (Bl (.inl O) x (AC Kz O (AS Bb x O mh O BP O ?_))))
   obtain⟨G,av,E⟩:=bd E
   refine CE O O O NC O (λh' o=>Ef (St.all h') ((X.mono' (k.trans F)).mono' (o.all x.1)) av) λbl=>?_
   have cl:=bl
   refine AY O (BJ (kp [11,34,33,3,2,6,35] O) λcm Y am=>AI (AA O (AA O (Af O (AL O (kp [6,11,34,33,3,2,35] O) (AI (AA O (Ft O (AA O (AV 3 73 (.bool ((decide (G≤0))||(decide (1125899906842624<(BC (C+G)))))) ?_ ?_))))))))))
   ·cases cn:(decide (G≤0))
    ·exact AB O (AA O (AB O (Bh O (AJ O (AU O)))))
    exact Aa O O
   refine AN (kp [73,6,34,33,3,2,35] O) (AX O E (λbm E=>?_) (λbm E=>?_))
   ·refine AI (AY O (AL O (kp [5,4] O) (Ac (λp s b i=>?_))))
    have aw:=Y.drop .head
    cases E
    exact J9 b O i (IC (Im b (v:=_) O) (IC (Im b (v:=_) O) J8)) O (e5.trans (y.trans (J.trans (A.trans (D.trans (k.trans (F.trans am))))))) ⟨O,(iq (n:=0) O),aw⟩
   refine AT (BK (BY (.inl O) (Af O (AA O (AN (kp [35,6,34,33,3,2] O) (WF.nil (λp s b i=>?_)))))))
   have ax:=Y.drop .head
   exact⟨(BC (C+G)),(BC (U+1)),_,_,b.sub (kp [34,33,3,2,6,35] O),i,ax,(A.trans (D.trans (k.trans (F.trans am)))),(BI _),(BI _),E⟩
  refine A9 O (λp s b i=>?_)
  exact⟨C,_,_,b.sub (kp [6] O),i,V,A,b5,E⟩
 rintro p s ⟨ad,co,cp,b,i,ay,bn,b9,E⟩
 refine Ad ?_ b i
 clear b i s p
 rw[Ge] at E
 refine AI (AA O (AY O (AL O (kp [5,4] O) (Ac (λp s b i=>?_)))))
 cases E
 exact J9 b O i (IC (Im b (v:=_) O) (IC (Im b (v:=_) O) J8)) O (e5.trans (y.trans (J.trans bn))) ⟨O,b9,ay⟩
end Go.Proofs.YtblcgjadhemlbaaGreat
