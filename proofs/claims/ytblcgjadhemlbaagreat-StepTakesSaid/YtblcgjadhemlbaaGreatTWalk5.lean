import Derived.Test.YtblcgjadhemlbaaGreatTWalk4
namespace Go.Proofs.YtblcgjadhemlbaaGreat
open Go.RowKit
set_option linter.unusedVariables false
set_option linter.unusedSimpArgs false
set_option maxRecDepth 10000
set_option maxHeartbeats 2000000
variable {N:Nat}{S:Nat→Prop}{L:List HP}{h:Aw}
theorem MX (hs:St S L h) {s:Value}{d:AW}(I:Rd S h B8 s d) {r:Bool}(E:Gt N d=some r):
 CL Tryz.prog 53 #[s] S h (λv S' h'=>v= .bool r∧St S' (L) h'):=by
 refine BF (l:=[s]) 64 Tryz.func53 O Tryz.ntmps53 O λB=>?_
 rw[Gt] at E
 refine WF.sl (B3 O I (λe=>by cases e) O hs λq1 S2 h3 ai e5 k6=>AI 1 (AY O (AG (AZ (kp [1] O) (AC (AH (Af O k6 Ie Nv O λq7 k8=>Al A6 ai.1 O k8 SP O λv9 aj=>Ak O aj Pf O λb7=>AA O (AM (kp [10,9,8,1] O) (Aj (λa w=>IV B S2 h3 (64,[]) a w [(1,q1)] (L) λ_ _=>DL N d=some r) ?_ ?_)))))))))
 ·refine A3 (λn1=>λa w=>∃(y:Int),IV B S2 h3 (64,[]) a w [(9,vI (↑d.Towns.length:Int)),(8,v9),(1,q1),(10,vI y)] (L) λ_ _=>AE y∧DK N d (DL N d) n1 y=some r) N ?_ ?_ ?_
  ·intro t u b c
   exact⟨0,_,_,b.sub (kp [9,8,1,10] O),c,ai,(B9.refl S2 h3),(iq (n:=0) O),E⟩
  ·rintro t u ⟨_,_,_,_,_,_,_,_,E⟩
   rw[DK] at E;cases E
  rintro n1 t u ⟨y,b8,b9,b,c,z,A,ca,E⟩
  refine Ac ?_ b c
  clear b c u t
  rw[DK] at E
  refine AH (Ao O (AM (kp [11,9,8,1,10] O) (AC (AX O E (λbe E=>?_) (λbe E=>?_)))))
  ·refine AO (AC (A8 (WF.sl (AI 2 ?_))))
   obtain⟨x,ak,E⟩:=bd E
   refine A9 O O (aj.mono' A) Pf ak O λcb bf=>B6 A6 z.1 O bf Q8 (λe=>by cases e) O λcc bg=>AG (Cn Vj O z λcd ce am J=>?_)
   obtain⟨rfl,⟨cf,bh,bi,bj,bk,bl,bm⟩⟩:=GQ.ex (bg.mono J)
   refine DW (vs:=[.string x.Name,vI x.Place,vI x.Flood,vI x.Lead,vI x.People,vI x.Watch,vI x.Quorum]) O O O O Q8 O am .head O λcg g X=>AZ (kp [4,9,8,1,10] O) (AC (Bt (.inl O) g (AD W6 O (AT Bg g O mh O Ae O (Af O (k6.mono (A.trans (J.trans X))) BO C0 O λch bn=>Al Bg g.1 O bn Fq O λci bo=>Ak O bo Ez O λbp=>?_)))))
   obtain⟨bq,an,E⟩:=bd E
   refine A5 O O O P2 O (λh' o=>GP (St.all h') bh (JY bp) an) (BZ O (AA O ?_))
   obtain⟨ao,i,E⟩:=bd E
   refine AV 5 26 (.bool ao) ?_ ?_
   ·cases ap:(!bq)
    ·have i:=GM ap i
     refine AB O (AD W5 O (AB O (AT Bg g O mh O Ae O (AB O ?_))))
     obtain⟨cj,aq,i⟩:=bd i
     refine A5 O O O JZ O (λh' o=>B0 (St.all h') bi aq) (AB O (BZ O (AJ O ?_)))
     cases i
     exact AU O
    have i:=GL ap i
    cases i
    exact Aa O O
   refine AA O ?_
   obtain⟨ar,j,E⟩:=bd E
   refine AV 5 32 (.bool ar) ?_ ?_
   ·cases au:ao
    ·have j:=GM au j
     refine AB O (AD W4 O (AB O (AT Bg g O mh O Ae O (AB O ?_))))
     obtain⟨ck,av,j⟩:=bd j
     refine A5 O O O Hn O (λh' o=>Bs (St.all h') bj (iq (n:=0) O) (iq (n:=24) O) av) (AB O (BZ O (AJ O ?_)))
     cases j
     exact AU O
    have j:=GL au j
    cases j
    exact Aa O O
   refine AA O ?_
   obtain⟨aw,k,E⟩:=bd E
   refine AV 5 38 (.bool aw) ?_ ?_
   ·cases ax:ar
    ·have k:=GM ax k
     refine AB O (AD W3 O (AB O (AT Bg g O mh O Ae O (AB O ?_))))
     obtain⟨cl,ay,k⟩:=bd k
     refine A5 O O O Hn O (λh' o=>Bs (St.all h') bk (iq (n:=0) O) (iq (n:=1073741824) O) ay) (AB O (BZ O (AJ O ?_)))
     cases k
     exact AU O
    have k:=GL ax k
    cases k
    exact Aa O O
   refine AA O ?_
   obtain⟨az,m,E⟩:=bd E
   refine AV 5 44 (.bool az) ?_ ?_
   ·cases a0:aw
    ·have m:=GM a0 m
     refine AB O (AD W2 O (AB O (AT Bg g O mh O Ae O (AB O ?_))))
     obtain⟨cm,a1,m⟩:=bd m
     refine A5 O O O JZ O (λh' o=>B0 (St.all h') bl a1) (AB O (BZ O (AJ O ?_)))
     cases m
     exact AU O
    have m:=GL a0 m
    cases m
    exact Aa O O
   refine AA O ?_
   obtain⟨br,p,E⟩:=bd E
   refine AV 5 50 (.bool br) ?_ ?_
   ·cases a2:az
    ·have p:=GM a2 p
     refine AB O (AD W1 O (AB O (AT Bg g O mh O Ae O (AB O ?_))))
     obtain⟨cn,a3,p⟩:=bd p
     refine A5 O O O Hn O (λh' o=>Bs (St.all h') bm (iq (n:=0) O) (iq (n:=128) O) a3) (AB O (BZ O (AJ O ?_)))
     cases p
     exact AU O
    have p:=GL a2 p
    cases p
    exact Aa O O
   refine BQ (kp [50,9,8,1,10] O) λco M a4=>AX O E (λbs E=>?_) (λbs E=>?_)
   ·refine AH (AL O (kp [2] O) (Ad (λt u b c=>?_)))
    have a5:=M.drop .head
    cases E
    exact Dr b c O O (e5.trans (A.trans (J.trans (X.trans a4)))) ⟨O,a5⟩
   refine AO (BP (BY (.inl O) (Ai O (AA O (AM (kp [10,9,8,1] O) (WF.nil (λt u b c=>?_)))))))
   have a6:=M.drop .head
   exact⟨(BM (y+1)),_,_,b.sub (kp [9,8,1,10] O),c,a6,(A.trans (J.trans (X.trans a4))),(BG _),E⟩
  refine BA O (λt u b c=>?_)
  exact⟨_,_,b.sub (kp [1] O),c,z,A,E⟩
 rintro t u ⟨Y,Z,b,c,Q,ab,E⟩
 refine Ac ?_ b c
 clear b c u t
 rw[DL] at E
 refine AC (AH (Af O (k6.mono ab) IP PP O λcp bt=>Al A6 Q.1 O bt UD O λbu a7=>Ak O a7 Qf O λcq=>AA O (AM (kp [55,54,53] O) (Aj (λa w=>IV B Y Z (64,[]) a w [] (L) λ_ _=>Eg N=some r) ?_ ?_))))
 ·refine A3 (λn3=>λa w=>∃(C:Int),IV B Y Z (64,[]) a w [(54,vI (↑d.Shelters.length:Int)),(53,bu),(55,vI C)] (L) λ_ _=>AE C∧DJ N d (Eg N) n3 C=some r) N ?_ ?_ ?_
  ·intro t u b c
   exact⟨0,_,_,b.sub (kp [54,53,55] O),c,Q,(B9.refl Y Z),(iq (n:=0) O),E⟩
  ·rintro t u ⟨_,_,_,_,_,_,_,_,E⟩
   rw[DJ] at E;cases E
  rintro n3 t u ⟨C,cr,cs,b,c,D,K,ct,E⟩
  refine Ac ?_ b c
  clear b c u t
  rw[DJ] at E
  refine AH (Ao O (AM (kp [56,54,53,55] O) (AC (AX O E (λbv E=>?_) (λbv E=>?_)))))
  ·refine AO (AC (A8 (WF.sl (AI 2 ?_))))
   obtain⟨U,ac,E⟩:=bd E
   refine A9 O O (a7.mono' K) Qf ac O λbw a8=>B6 A6 D.1 O a8 Q7 (λe=>by cases e) O λbx a9=>AG (Cn Vi O D λbz b0 ad F=>?_)
   obtain⟨rfl,⟨b1,ba⟩⟩:=Cx.ex (a9.mono F)
   refine DW (vs:=[.string U.Name,vI U.Room]) O O O O Q7 O ad .head O λb2 G V=>AZ (kp [6,54,53,55] O) (AC (Bt (.inl O) G (AD Wz O (AT Bg G O mh O Ae O ?_))))
   obtain⟨b3,ae,E⟩:=bd E
   refine A5 O O O Hn O (λh' o=>Bs (St.all h') ba (iq (n:=0) O) (iq (n:=1073741824) O) ae) (BZ O (BQ (kp [62,54,53,55] O) λb4 H W=>AX O E (λbb E=>?_) (λbb E=>?_)))
   ·refine AH (AL O (kp [2] O) (Ad (λt u b c=>?_)))
    have af:=H.drop .head
    cases E
    exact Dr b c O O (e5.trans (ab.trans (K.trans (F.trans (V.trans W))))) ⟨O,af⟩
   refine AO (BP (BY (.inl O) (Ai O (AA O (AM (kp [55,54,53] O) (WF.nil (λt u b c=>?_)))))))
   have ag:=H.drop .head
   exact⟨(BM (C+1)),_,_,b.sub (kp [54,53,55] O),c,ag,(K.trans (F.trans (V.trans W))),(BG _),E⟩
  refine BA O (λt u b c=>?_)
  exact⟨_,_,b.sub Ov,c,D,K,E⟩
 rintro t u ⟨b5,b6,b,c,ah,bc,E⟩
 refine Ac ?_ b c
 clear b c u t
 rw[Eg] at E
 refine AH (AL O (kp [2] O) (Ad (λt u b c=>?_)))
 cases E
 exact Dr b c O O (e5.trans (ab.trans bc)) ⟨O,ah⟩
theorem MB (hs:St S L h) {g:Value}{b:AW}(G:Rd S h B8 g b) {r:Bool}(E:GW N b=some r):
 CL Tryz.prog 54 #[g] S h (λv S' h'=>v= .bool r∧St S' (L) h'):=by
 refine BF (l:=[g]) 47 Tryz.func54 O Tryz.ntmps54 O λB=>?_
 rw[GW] at E
 refine WF.sl (B3 O G (λe=>by cases e) O hs λq1 S2 h3 M e5 k6=>AI 1 (AY O (AG (AZ (kp [1] O) (AC (AH (Af O k6 KH Rs O λq7 k8=>Al A6 M.1 O k8 Vt O λv9 Q=>Ak O Q Sa O λbc=>AA O (AM (kp [9,8,7,1] O) (Aj (λa w=>IV B S2 h3 (47,[]) a w [] (L) λ_ _=>ET N=some r) ?_ ?_)))))))))
 ·refine A3 (λn1=>λa w=>∃(u:Int),IV B S2 h3 (47,[]) a w [(8,vI (↑b.Gauges.length:Int)),(7,v9),(1,q1),(9,vI u)] (L) λ_ _=>AE u∧DD N b (ET N) n1 u=some r) N ?_ ?_ ?_
  ·intro D F i j
   exact⟨0,_,_,i.sub (kp [8,7,1,9] O),j,M,(B9.refl S2 h3),(iq (n:=0) O),E⟩
  ·rintro D F ⟨_,_,_,_,_,_,_,_,E⟩
   rw[DD] at E;cases E
  rintro n1 D F ⟨u,be,bf,i,j,x,t,bg,E⟩
  refine Ac ?_ i j
  clear i j F D
  rw[DD] at E
  refine AH (Ao O (AM (kp [10,8,7,1,9] O) (AC (AX O E (λao E=>?_) (λao E=>?_)))))
  ·refine AO (AC (A8 (WF.sl (AI 2 ?_))))
   obtain⟨y,U,E⟩:=bd E
   refine A9 O O (Q.mono' t) Sa U O λbh ap=>B6 A6 x.1 O ap Q6 (λe=>by cases e) O λbi aq=>AG (Cn Vh O x λbj bk V A=>?_)
   obtain⟨rfl,⟨bl,ar,au,av,aw⟩⟩:=EV.ex (aq.mono A)
   refine DW (vs:=[.string y.Name,vI y.Kind,vI y.Target,vI y.Err,vI y.Drift]) O O O O Q6 O V .head O λbm m H=>AZ (kp [4,8,7,1,9] O) (AC (AC (Bt (.inl O) m (AD TB O (AT Bg m O mh O Ae O ?_)))))
   obtain⟨ax,W,E⟩:=bd E
   refine A5 O O O Hn O (λh' o=>Bs (St.all h') ar (iq (n:=0) O) (iq (n:=2) O) W) (BZ O (AA O ?_))
   obtain⟨X,c,E⟩:=bd E
   refine AV 5 22 (.bool X) ?_ ?_
   ·cases Y:(!ax)
    ·have c:=GM Y c
     refine AB O (AD Ww O (AB O (AT Bg m O mh O Ae O (AB O ?_))))
     obtain⟨bn,Z,c⟩:=bd c
     refine A5 O O O Hn O (λh' o=>Bs (St.all h') av (iq (n:=0) O) (iq (n:=1099511627776) O) Z) (AB O (BZ O (AJ O ?_)))
     cases c
     exact AU O
    have c:=GL Y c
    cases c
    exact Aa O O
   refine AA O ?_
   obtain⟨ay,d,E⟩:=bd E
   refine AV 5 28 (.bool ay) ?_ ?_
   ·cases ab:X
    ·have d:=GM ab d
     refine AB O (AD Wv O (AB O (AT Bg m O mh O Ae O (AB O ?_))))
     obtain⟨bo,ac,d⟩:=bd d
     refine A5 O O O Hn O (λh' o=>Bs (St.all h') aw (iq (n:=0) O) (iq (n:=1440) O) ac) (AB O (BZ O (AJ O ?_)))
     cases d
     exact AU O
    have d:=GL ab d
    cases d
    exact Aa O O
   refine BQ (kp [28,4,8,7,1,9] O) λbp k I=>AX O E (λaz E=>?_) (λaz E=>?_)
   ·refine AH (AL O (kp [2] O) (Ad (λD F i j=>?_)))
    have ad:=k.drop .head
    cases E
    exact Dr i j O O (e5.trans (t.trans (A.trans (H.trans I)))) ⟨O,ad⟩
   refine AO (WF.sl (AI 9 ?_))
   have K:=k6.mono (t.trans (A.trans (H.trans I)))
   refine Af O K BO C0 O λbq a0=>Al A6 k.1 O a0 Fq O λbr a1=>Ak O a1 Ez O λa2=>Af O K Kv Ru O λbs a3=>Ag A6 k.1 O a3 Ae O λa4=>Af O K Es HA O λbt a5=>Al A6 k.1 O a5 Jv O λbu a6=>Ak O a6 H6 O λa7=>Yt (cs:=[vI (↑b.Places.length:Int),vI b.Cells,vI (↑b.Links.length:Int)]) bC O O O (AG (Cn Zi O k λbv bw ae af=>DW (vs:=[vI (↑b.Places.length:Int),vI b.Cells,vI (↑b.Links.length:Int)]) O O O O Zr O ae .head O λbx s ag=>AZ (kp [5,4,8,7,1,9] O) (AC (Bt (.inr ⟨mo,by kernel_rfl⟩) s (AD Wx O (AT Bg s O (mt mh) O Ae O (AD TB O (AT Bg s O (mt mh) O Ae O ?_))))))))
   obtain⟨a8,C,E⟩:=bd E
   have ah:=eE C
   refine bQ O O bA ah.1 ah.2 O (Yq (l:=([(↑b.Places.length:Int),b.Cells,(↑b.Links.length:Int)]:List Int)) (Value.int .i64) Bg s O mh O C Ae O ?_)
   have a9:AE a8:=eD (p:=λz=>AE z) (all_cons (JY a2) (all_cons a4 (all_cons (JY a7) Yc))) C
   obtain⟨bz,ai,E⟩:=bd E
   refine A5 O O O P2 O (λh' o=>GP (St.all h') au a9 ai) (BZ O (BQ (kp [45,8,7,1,9] O) λb0 J aj=>AX O E (λba E=>?_) (λba E=>?_)))
   ·refine AH (AL O (kp [2] O) (Ad (λD F i j=>?_)))
    have ak:=J.sel [] 2 O
    cases E
    exact Dr i j O O (e5.trans (t.trans (A.trans (H.trans (I.trans (af.trans (ag.trans aj))))))) ⟨O,ak⟩
   refine AO (BP (BY (.inl O) (Ai O (AA O (AM (kp [9,8,7,1] O) (WF.nil (λD F i j=>?_)))))))
   have am:=J.sel [] 2 O
   exact⟨(BM (u+1)),_,_,i.sub (kp [8,7,1,9] O),j,am,(t.trans (A.trans (H.trans (I.trans (af.trans (ag.trans aj)))))),(BG _),E⟩
  refine BA O (λD F i j=>?_)
  exact⟨_,_,i.sub Ov,j,x,t,E⟩
 rintro D F ⟨b1,b2,i,j,an,bb,E⟩
 refine Ac ?_ i j
 clear i j F D
 rw[ET] at E
 refine AH (AL O (kp [2] O) (Ad (λD F i j=>?_)))
 cases E
 exact Dr i j O O (e5.trans bb) ⟨O,an⟩
theorem MY (hs:St S L h) {s:Value}{x:AW}(G:Rd S h B8 s x) {r:Bool}(E:Gu N x=some r):
 CL Tryz.prog 55 #[s] S h (λv S' h'=>v= .bool r∧St S' (L) h'):=by
 refine BF (l:=[s]) 80 Tryz.func55 O Tryz.ntmps55 O λB=>?_
 rw[Gu] at E
 refine WF.sl (B3 O G (λe=>by cases e) O hs λq1 S2 h3 X e5 k6=>AI 1 (AY O (AG (AZ (kp [1] O) (AC (AH (Af O k6 Ku Rr O λq7 k8=>Al A6 X.1 O k8 Vs O λv9 Y=>Ak O Y SZ O λbn=>AA O (AM (kp [8,7,6,1] O) (Aj (λa w=>IV B S2 h3 (80,[]) a w [] (L) λ_ _=>Eh N=some r) ?_ ?_)))))))))
 ·refine A3 (λn1=>λa w=>∃(z:Int),IV B S2 h3 (80,[]) a w [(7,vI (↑x.Roads.length:Int)),(6,v9),(1,q1),(8,vI z)] (L) λ_ _=>AE z∧DM N x (Eh N) n1 z=some r) N ?_ ?_ ?_
  ·intro D F t u
   exact⟨0,_,_,t.sub (kp [7,6,1,8] O),u,X,(B9.refl S2 h3),(iq (n:=0) O),E⟩
  ·rintro D F ⟨_,_,_,_,_,_,_,_,E⟩
   rw[DM] at E;cases E
  rintro n1 D F ⟨z,bo,bp,t,u,A,y,bq,E⟩
  refine Ac ?_ t u
  clear t u F D
  rw[DM] at E
  refine AH (Ao O (AM (kp [9,7,6,1,8] O) (AC (AX O E (λaw E=>?_) (λaw E=>?_)))))
  ·refine AO (AC (A8 (WF.sl (AI 2 ?_))))
   obtain⟨b,Z,E⟩:=bd E
   refine A9 O O (Y.mono' y) SZ Z O λbr ax=>B6 A6 A.1 O ax Q5 (λe=>by cases e) O λbs ay=>AG (Cn Vg O A λbt bu ab C=>?_)
   obtain⟨rfl,⟨bv,az,a0,a1,a2,a3,a4⟩⟩:=Fp.ex (ay.mono C)
   refine DW (vs:=[.string b.Name,vI b.From,vI b.To,vI b.Hours,vI b.Flow,vI b.By,vI b.Limit]) O O O O Q5 O ab .head O λbw c H=>AZ (kp [4,7,6,1,8] O) (AC (AC (Bt (.inl O) c (AD TA O (AT Bg c O mh O Ae O ?_)))))
   have I:=k6.mono (y.trans (C.trans H))
   refine Af O I Ie Nv O λbx a5=>Al Bg c.1 O a5 SP O λbz a6=>Ak O a6 Pf O λa7=>?_
   obtain⟨a8,ac,E⟩:=bd E
   refine A5 O O O P2 O (λh' o=>GP (St.all h') az (JY a7) ac) (BZ O (AA O ?_))
   obtain⟨J,d,E⟩:=bd E
   refine AV 12 31 (.bool J) ?_ ?_
   ·cases ad:(!a8)
    ·have d:=GM ad d
     refine AB O (AD S7 O (AB O (AT Bg c O mh O Ae O (AB O (Af O I Ie Nv O λb0 a9=>AB O (Al Bg c.1 O a9 SP O λb1 ba=>AB O (Ak O ba Pf O λb2=>AB O (Af O I IP PP O λb3 bb=>AB O (Al Bg c.1 O bb UD O λb4 bc=>AB O (Ak O bc Qf O λb5=>AB O (Ai O (AB O ?_))))))))))))
     obtain⟨b6,ae,d⟩:=bd d
     refine A5 O O O P2 O (λh' o=>GP (St.all h') a0 (BG _) ae) (AB O (BZ O (AJ O ?_)))
     cases d
     exact AU O
    have d:=GL ad d
    cases d
    exact Aa O O
   refine AA O (AV 6 38 (.bool (J||(decide (b.From=b.To)))) ?_ ?_)
   ·cases b7:J
    ·exact AB O (AD TA O (AB O (AT Bg c O mh O Ae O (AB O (AD S7 O (AB O (AT Bg c O mh O Ae O (AB O (BK O (AJ O (AU O)))))))))))
    exact Aa O O
   refine AA O ?_
   obtain⟨af,g,E⟩:=bd E
   refine AV 5 44 (.bool af) ?_ ?_
   ·cases ag:(J||(decide (b.From=b.To)))
    ·have g:=GM ag g
     refine AB O (AD Wt O (AB O (AT Bg c O mh O Ae O (AB O ?_))))
     obtain⟨b8,ah,g⟩:=bd g
     refine A5 O O O Hn O (λh' o=>Bs (St.all h') a1 (iq (n:=1) O) (iq (n:=24) O) ah) (AB O (BZ O (AJ O ?_)))
     cases g
     exact AU O
    have g:=GL ag g
    cases g
    exact Aa O O
   refine AA O ?_
   obtain⟨ai,i,E⟩:=bd E
   refine AV 5 50 (.bool ai) ?_ ?_
   ·cases aj:af
    ·have i:=GM aj i
     refine AB O (AD Ws O (AB O (AT Bg c O mh O Ae O (AB O ?_))))
     obtain⟨b9,ak,i⟩:=bd i
     refine A5 O O O Hn O (λh' o=>Bs (St.all h') a2 (iq (n:=0) O) (iq (n:=1073741824) O) ak) (AB O (BZ O (AJ O ?_)))
     cases i
     exact AU O
    have i:=GL aj i
    cases i
    exact Aa O O
   refine AA O ?_
   obtain⟨be,j,E⟩:=bd E
   refine AV 5 56 (.bool be) ?_ ?_
   ·cases am:ai
    ·have j:=GM am j
     refine AB O (AD S5 O (AB O (AT Bg c O mh O Ae O (AB O ?_))))
     obtain⟨ca,an,j⟩:=bd j
     refine A5 O O O JZ O (λh' o=>B0 (St.all h') a4 an) (AB O (BZ O (AJ O ?_)))
     cases j
     exact AU O
    have j:=GL am j
    cases j
    exact Aa O O
   refine BQ (kp [56,4,7,6,1,8] O) λcb p K=>AX O E (λbf E=>?_) (λbf E=>?_)
   ·refine AH (AL O (kp [2] O) (Ad (λD F t u=>?_)))
    have ao:=p.drop .head
    cases E
    exact Dr t u O O (e5.trans (y.trans (C.trans (H.trans K)))) ⟨O,ao⟩
   refine AO (AC (Bt (.inl O) p (AD Py O (AT Bg p O mh O Ae O (BK O (AA O (AV 4 64 (.bool ((decide (b.By=(-1)))&&(decide (b.Limit≠0)))) ?_ ?_)))))))
   ·cases cc:(decide (b.By=(-1)))
    ·exact Aa O O
    exact AB O (AD S5 O (AB O (AT Bg p O mh O Ae O (AB O (Bl O (AJ O (AU O)))))))
   refine AA O ?_
   obtain⟨bg,k,E⟩:=bd E
   refine AV 13 78 (.bool bg) ?_ ?_
   ·cases ap:((decide (b.By=(-1)))&&(decide (b.Limit≠0)))
    ·have k:=GM ap k
     refine AB O (AD Py O (AB O (AT Bg p O mh O Ae O (AB O (Bl O (AB O (AA O ?_)))))))
     obtain⟨bh,m,k⟩:=bd k
     refine AV 8 77 (.bool bh) ?_ ?_
     ·cases aq:(decide (b.By≠(-1)))
      ·have m:=GM aq m
       cases m
       exact Aa O O
      have m:=GL aq m
      refine AB O (AD Py O (AB O (AT Bg p O mh O Ae O (AB O (Af O (I.mono K) BO C0 O λcd bi=>AB O (Al Bg p.1 O bi Fq O λce bj=>AB O (Ak O bj Ez O λbk=>AB O ?_)))))))
      obtain⟨cf,ar,m⟩:=bd m
      refine A5 O O O P2 O (λh' o=>GP (St.all h') a3 (JY bk) ar) (AB O (BZ O (AB O (AJ O ?_))))
      cases m
      exact AU O
     refine AJ O ?_
     cases k
     exact AU O
    have k:=GL ap k
    cases k
    exact Aa O O
   refine BQ (kp [78,7,6,1,8] O) λcg M Q=>AX O E (λau E=>?_) (λau E=>?_)
   ·refine AH (AL O (kp [2] O) (Ad (λD F t u=>?_)))
    have U:=M.drop .head
    cases E
    exact Dr t u O O (e5.trans (y.trans (C.trans (H.trans (K.trans Q))))) ⟨O,U⟩
   refine AO (BP (BY (.inl O) (Ai O (AA O (AM (kp [8,7,6,1] O) (WF.nil (λD F t u=>?_)))))))
   have V:=M.drop .head
   exact⟨(BM (z+1)),_,_,t.sub (kp [7,6,1,8] O),u,V,(y.trans (C.trans (H.trans (K.trans Q)))),(BG _),E⟩
  refine BA O (λD F t u=>?_)
  exact⟨_,_,t.sub Ov,u,A,y,E⟩
 rintro D F ⟨bl,bm,t,u,W,av,E⟩
 refine Ac ?_ t u
 clear t u F D
 rw[Eh] at E
 refine AH (AL O (kp [2] O) (Ad (λD F t u=>?_)))
 cases E
 exact Dr t u O O (e5.trans av) ⟨O,W⟩
theorem Ly (hs:St S L h) {n:Value}{t:AW}(p:Rd S h B8 n t) {r:Bool}(E:IG N t=some r):
 CL Tryz.prog 27 #[n] S h (λv S' h'=>v= .bool r∧St S' (L) h'):=by
 refine BF (l:=[n]) 37 Tryz.func27 O Tryz.ntmps27 O λB=>?_
 rw[IG] at E
 refine WF.sl (B3 O p (λe=>by cases e) O hs λq1 S2 h3 a e5 s=>AI 1 (AY O (AG (AZ (kp [1] O) (AC (Bt (.inl O) a (B6 Bg a.1 O s G0 (λe=>by cases e) O λv7 k8=>?_)))))))
 obtain⟨y9,ad,E⟩:=bd E
 refine A5 O O O fV O (λh' o=>NA (St.all h') (k8.mono (o.all a.1)) ad) (AA O ?_)
 obtain⟨u,b,E⟩:=bd E
 refine AV 3 8 (.bool u) ?_ ?_
 ·cases w:y9
  ·have b:=GM w b
   cases b
   exact Aa O O
  have b:=GL w b
  refine AB O (B6 Bg a.1 O s G0 (λe=>by cases e) O λao ae=>AB O ?_)
  obtain⟨ap,x,b⟩:=bd b
  refine A5 O O O fU O (λh' o=>MZ (St.all h') (ae.mono (o.all a.1)) x) (AJ O ?_)
  cases b
  exact AU O
 refine AA O ?_
 obtain⟨y,c,E⟩:=bd E
 refine AV 3 12 (.bool y) ?_ ?_
 ·cases z:u
  ·have c:=GM z c
   cases c
   exact Aa O O
  have c:=GL z c
  refine AB O (B6 Bg a.1 O s G0 (λe=>by cases e) O λaq af=>AB O ?_)
  obtain⟨ar,A,c⟩:=bd c
  refine A5 O O O fT O (λh' o=>MA (St.all h') (af.mono (o.all a.1)) A) (AJ O ?_)
  cases c
  exact AU O
 refine AA O ?_
 obtain⟨C,d,E⟩:=bd E
 refine AV 3 16 (.bool C) ?_ ?_
 ·cases D:y
  ·have d:=GM D d
   cases d
   exact Aa O O
  have d:=GL D d
  refine AB O (B6 Bg a.1 O s G0 (λe=>by cases e) O λau ag=>AB O ?_)
  obtain⟨av,F,d⟩:=bd d
  refine A5 O O O fS O (λh' o=>Ma (St.all h') (ag.mono (o.all a.1)) F) (AJ O ?_)
  cases d
  exact AU O
 refine AA O ?_
 obtain⟨G,g,E⟩:=bd E
 refine AV 3 20 (.bool G) ?_ ?_
 ·cases H:C
  ·have g:=GM H g
   cases g
   exact Aa O O
  have g:=GL H g
  refine AB O (B6 Bg a.1 O s G0 (λe=>by cases e) O λaw ah=>AB O ?_)
  obtain⟨ax,I,g⟩:=bd g
  refine A5 O O O fR O (λh' o=>Lp (St.all h') (ah.mono (o.all a.1)) I) (AJ O ?_)
  cases g
  exact AU O
 refine AA O ?_
 obtain⟨J,i,E⟩:=bd E
 refine AV 3 24 (.bool J) ?_ ?_
 ·cases K:G
  ·have i:=GM K i
   cases i
   exact Aa O O
  have i:=GL K i
  refine AB O (B6 Bg a.1 O s G0 (λe=>by cases e) O λay ai=>AB O ?_)
  obtain⟨az,M,i⟩:=bd i
  refine A5 O O O fQ O (λh' o=>L9 (St.all h') (ai.mono (o.all a.1)) M) (AJ O ?_)
  cases i
  exact AU O
 refine AA O ?_
 obtain⟨Q,j,E⟩:=bd E
 refine AV 3 28 (.bool Q) ?_ ?_
 ·cases U:J
  ·have j:=GM U j
   cases j
   exact Aa O O
  have j:=GL U j
  refine AB O (B6 Bg a.1 O s G0 (λe=>by cases e) O λa0 aj=>AB O ?_)
  obtain⟨a1,V,j⟩:=bd j
  refine A5 O O O fP O (λh' o=>MX (St.all h') (aj.mono (o.all a.1)) V) (AJ O ?_)
  cases j
  exact AU O
 refine AA O ?_
 obtain⟨W,k,E⟩:=bd E
 refine AV 3 32 (.bool W) ?_ ?_
 ·cases X:Q
  ·have k:=GM X k
   cases k
   exact Aa O O
  have k:=GL X k
  refine AB O (B6 Bg a.1 O s G0 (λe=>by cases e) O λa2 ak=>AB O ?_)
  obtain⟨a3,Y,k⟩:=bd k
  refine A5 O O O fO O (λh' o=>MB (St.all h') (ak.mono (o.all a.1)) Y) (AJ O ?_)
  cases k
  exact AU O
 refine AA O ?_
 obtain⟨al,m,E⟩:=bd E
 refine AV 3 36 (.bool al) ?_ ?_
 ·cases Z:W
  ·have m:=GM Z m
   cases m
   exact Aa O O
  have m:=GL Z m
  refine AB O (B6 Bg a.1 O s G0 (λe=>by cases e) O λa4 am=>AB O ?_)
  obtain⟨a5,ab,m⟩:=bd m
  refine A5 O O O fN O (λh' o=>MY (St.all h') (am.mono (o.all a.1)) ab) (AJ O ?_)
  cases m
  exact AU O
 refine AY O (BQ (kp [2] O) λa6 ac an=>Ad (λaa ww hf hw=>?_))
 cases E
 exact Dr hf hw O O (e5.trans an) ⟨O,ac⟩
theorem MO (hs:St S L h) {b:Value}{g:(List Int)}(i:Sl S h AN.int b g) {r:Bool}(E:HI N g=some r):
 CL Tryz.prog 91 #[b] S h (λv S' h'=>v= .bool r∧St S' (L) h'):=by
 refine BF (l:=[b]) 24 Tryz.func91 O Tryz.ntmps91 O λB=>?_
 rw[HI] at E
 refine AH (AL O (kp [0] O) (AH (AL O (kp [3,0] O) (AC (AH (AA O (Ak O i BR O λM=>AA O (AM (kp [8,7,6,3] O) (Aj (λa w=>IV B S h (24,[]) a w [] (L) λ_ _=>Fc N=some r) ?_ ?_)))))))))
 ·refine A3 (λC=>λa w=>∃(q:Int) (s:Int),IV B S h (24,[]) a w [(7,vI (↑g.length:Int)),(6,b),(3,vI q),(8,vI s)] (L) λ_ _=>AE q∧AE s∧Do N g (Fc N) C q s=some r) N ?_ ?_ ?_
  ·intro k m c d
   exact⟨0,0,_,_,c.sub (kp [7,6,3,8] O),d,hs,(B9.refl S h),(iq (n:=0) O),(iq (n:=0) O),E⟩
  ·rintro k m ⟨_,_,_,_,_,_,_,_,_,_,E⟩
   rw[Do] at E;cases E
  rintro C k m ⟨q,s,D,F,c,d,j,o,Q,U,E⟩
  refine Ac ?_ c d
  clear c d m k
  rw[Do] at E
  refine AH (Ao O (AM (kp [9,7,6,3,8] O) (AC (AX O E (λx E=>?_) (λx E=>?_)))))
  ·refine AO (AC (A8 (AH ?_)))
   obtain⟨p,t,E⟩:=bd E
   refine A9 O O (i.mono' o) BR t O λG y=>Ag A6 j.1 O y Ae O λH=>AL O (kp [5,7,6,3,8] O) (AC (AH (AA O (Ao O (AA O (AV 5 19 (.bool ((decide (p<0))||(decide ((BM (1125899906842624-q))<p)))) ?_ ?_))))))
   ·cases I:(decide (p<0))
    ·exact AB O (AA O (AB O (AA O (AB O (Cz O (AB O (Bk O (AJ O (AU O)))))))))
    exact Aa O O
   refine AM (kp [19,5,7,6,3,8] O) (AX O E (λz E=>?_) (λz E=>?_))
   ·refine AH (AL O (kp [2] O) (Ad (λk m c d=>?_)))
    cases E
    exact Dr c d O O o ⟨O,j⟩
   refine AO (BY (.inl O) (AA O (AA O (Ai O (AL O (kp [3,7,6,8] O) (BP (BY (.inl O) (Ai O (AA O (AM (kp [8,3,7,6] O) (WF.nil (λk m c d=>?_))))))))))))
   exact⟨(BM (q+p)),(BM (s+1)),_,_,c.sub (kp [7,6,3,8] O),d,j,o,(BG _),(BG _),E⟩
  refine BA O (λk m c d=>?_)
  exact⟨_,_,c.sub Ov,d,j,o,E⟩
 rintro k m ⟨J,K,c,d,u,A,E⟩
 refine Ac ?_ c d
 clear c d m k
 rw[Fc] at E
 refine AH (AL O (kp [2] O) (Ad (λk m c d=>?_)))
 cases E
 exact Dr c d O O A ⟨O,u⟩
theorem MQ (hs:St S L h) {b:Value}{d:(List Int)}(g:Sl S h AN.int b d) {a:Int}(i:AE a) {r:Bool}(E:If N d a=some r):
 CL Tryz.prog 67 #[b,vI a] S h (λv S' h'=>v= .bool r∧St S' (L) h'):=by
 refine BF (l:=[b,vI a]) 21 Tryz.func67 O Tryz.ntmps67 O λB=>?_
 rw[If] at E
 refine AH (AL O (kp [0,1] O) (AC (Bt (.inl O) hs (AA O (Gb O (AA O (AV 3 10 (.bool ((decide (0≤a))&&(decide (a≤16)))) ?_ ?_)))))))
 ·cases t:(decide (0≤a))
  ·exact Aa O O
  exact AB O (AA O (AB O (Fv O (AJ O (AU O)))))
 refine AA O (AV 5 16 (.bool (((decide (0≤a))&&(decide (a≤16)))&&(decide ((↑d.length:Int)=a)))) ?_ ?_)
 ·cases u:((decide (0≤a))&&(decide (a≤16)))
  ·exact Aa O O
  exact AB O (AA O (AB O (Ak O g BR O λw=>AB O (AA O (AB O (BK O (AJ O (AU O))))))))
 refine AA O ?_
 obtain⟨p,c,E⟩:=bd E
 refine AV 3 20 (.bool p) ?_ ?_
 ·cases n:(((decide (0≤a))&&(decide (a≤16)))&&(decide ((↑d.length:Int)=a)))
  ·have c:=GM n c
   cases c
   exact Aa O O
  have c:=GL n c
  refine AB O (AA O (AB O ?_))
  obtain⟨x,j,c⟩:=bd c
  refine A5 O O O ZT O (λh' o=>MO (St.all h') (g.mono' (o.all hs.1)) j) (AJ O ?_)
  cases c
  exact AU O
 refine AY O (BQ (kp [4] O) λy k m=>Ad (λz A q s=>?_))
 cases E
 exact Dr q s O O m ⟨O,k⟩
theorem IH (hs:St S L h) {b:Int}(g:AE b) {a:Int}(i:AE a) {r:Int}(E:Ff N b a=some r):
 CL Tryz.prog 36 #[vI b,vI a] S h (λv S' h'=>v=vI r∧AE r∧St S' (L) h'):=by
 refine BF (l:=[vI b,vI a]) 24 Tryz.func36 O Tryz.ntmps36 O λB=>?_
 rw[Ff] at E
 refine AH (AL O (kp [0,1] O) (AC (AH (AA O (Bk O (AA O (AV 5 12 (.bool ((decide (0<a))&&(decide ((BM (9223372036854775807-a))<b)))) ?_ ?_)))))))
 ·cases p:(decide (0<a))
  ·exact Aa O O
  exact AB O (AA O (AB O (AA O (AB O (Cz O (AB O (Bk O (AJ O (AU O)))))))))
 refine AM (kp [12,0,1] O) (AX O E (λm E=>?_) (λm E=>?_))
 ·refine AH (AL O (kp [4] O) (Ad (λj k c d=>?_)))
  cases E
  exact Dr c d O O (B9.refl S h) ⟨O,(iq (n:=9223372036854775807) O),hs⟩
 refine AO (AC (AH (AA O (Ao O (AA O (AV 5 20 (.bool ((decide (a<0))&&(decide (b<(BM ((-9223372036854775808)-a)))))) ?_ ?_))))))
 ·cases q:(decide (a<0))
  ·exact Aa O O
  exact AB O (AA O (AB O (AA O (AB O (Cz O (AB O (Ao O (AJ O (AU O)))))))))
 refine AM (kp [20,0,1] O) (AX O E (λo E=>?_) (λo E=>?_))
 ·refine AH (AL O (kp [4] O) (Ad (λj k c d=>?_)))
  cases E
  exact Dr c d O O (B9.refl S h) ⟨O,(iq (n:=(-9223372036854775808)) O),hs⟩
 refine AO (AH (AA O (AA O (Ai O (AL O (kp [4] O) (Ad (λj k c d=>?_)))))))
 cases E
 exact Dr c d O O (B9.refl S h) ⟨O,(BG _),hs⟩
theorem Ek (hs:St S L h) {b:Value}{c:(List Int)}(d:Sl S h AN.int b c) {r:Int}(E:Dd N c=some r):
 CL Tryz.prog 59 #[b] S h (λv S' h'=>v=vI r∧AE r∧St S' (L) h'):=by
 refine BF (l:=[b]) 17 Tryz.func59 O Tryz.ntmps59 O λB=>?_
 rw[Dd] at E
 refine AH (AL O (kp [0] O) (AH (AL O (kp [3,0] O) (AC (AH (AA O (Ak O d BR O λb1=>AA O (AM (kp [8,7,6,3] O) (Aj (λa w=>∃(z:Int),IV B S h (17,[]) a w [(3,vI z)] (L) λ_ _=>AE z∧G3 N z=some r) ?_ ?_)))))))))
 ·refine A3 (λK=>λa w=>∃(s:Int) (j:Int),IV B S h (17,[]) a w [(7,vI (↑c.length:Int)),(6,b),(3,vI s),(8,vI j)] (L) λ_ _=>AE s∧AE j∧Fd N c (G3 N) K s j=some r) N ?_ ?_ ?_
  ·intro m p g i
   exact⟨0,0,_,_,g.sub (kp [7,6,3,8] O),i,hs,(B9.refl S h),(iq (n:=0) O),(iq (n:=0) O),E⟩
  ·rintro m p ⟨_,_,_,_,_,_,_,_,_,_,E⟩
   rw[Fd] at E;cases E
  rintro K m p ⟨s,j,Q,U,g,i,k,q,M,V,E⟩
  refine Ac ?_ g i
  clear g i p m
  rw[Fd] at E
  refine AH (Ao O (AM (kp [9,7,6,3,8] O) (AC (AX O E (λA E=>?_) (λA E=>?_)))))
  ·refine AO (AC (A8 (AH ?_)))
   obtain⟨W,t,E⟩:=bd E
   refine A9 O O (d.mono' q) BR t O λX C=>Ag A6 k.1 O C Ae O λD=>AL O (kp [5,7,6,3,8] O) (Bt (.inl O) k (AA O (AA O ?_)))
   obtain⟨F,u,E⟩:=bd E
   refine CX O O O Qt O (λh' o=>IH (St.all h') M D u) λG=>?_
   have H:=G
   refine AY O (BQ (kp [3,7,6,8] O) λY x I=>BP (BY (.inl O) (Ai O (AA O (AM (kp [8,3,7,6] O) (WF.nil (λm p g i=>?_)))))))
   exact⟨F,(BM (j+1)),_,_,g.sub (kp [7,6,3,8] O),i,x,(q.trans I),H,(BG _),E⟩
  refine BA O (λm p g i=>?_)
  exact⟨s,_,_,g.sub (kp [3] O),i,k,q,M,E⟩
 rintro m p ⟨z,Z,ab,g,i,y,J,r3,E⟩
 refine Ac ?_ g i
 clear g i p m
 rw[G3] at E
 refine AH (AA O (AL O (kp [2] O) (Ad (λm p g i=>?_))))
 cases E
 exact Dr g i O O J ⟨O,r3,y⟩
theorem Fx (hs:St S L h) {b:Int}(d:AE b) {a:Int}(c:AE a) {r:Bool}(E:qZ N b a=some r):
 CL Tryz.prog 57 #[vI b,vI a] S h (λv S' h'=>v= .bool r∧St S' (L) h'):=by
 refine BF (l:=[vI b,vI a]) 12 Tryz.func57 O Tryz.ntmps57 O λB=>?_
 rw[qZ] at E
 refine AH (AL O (kp [0,1] O) (AH (AA O (Gb O (AA O (AV 4 11 (.bool ((decide (0≤b))&&(decide (b<a)))) ?_ ?_))))))
 ·cases j:(decide (0≤b))
  ·exact Aa O O
  exact AB O (AA O (AB O (AA O (AB O (Ao O (AJ O (AU O)))))))
 refine AL O (kp [4] O) (Ad (λk m g i=>?_))
 cases E
 exact Dr g i O O (B9.refl S h) ⟨O,hs⟩
theorem On (hs:St S L h) {t:Value}{m:AW}(Z:Rd S h B8 t m) {u:Value}{j:Am}(ab:Rd S h CP u j) {r:Int×Bool}(E:Iu N m j=some r):
 CL Tryz.prog 37 #[t,u] S h (λv S' h'=>v= .tuple #[vI r.1,.bool r.2]∧AE r.1∧St S' (L) h'):=by
 refine BF (l:=[t,u]) 76 Tryz.func37 O Tryz.ntmps37 O λB=>?_
 rw[Iu] at E
 refine WF.sl (B3 O Z (λe=>by cases e) O hs λq1 S2 h3 bo e5 k6=>B3 O (ab.mono e5) (λe=>by cases e) O bo λq8 S9 an ae y az=>AI 2 (AY O (AY O (AG (AZ (kp [3,2] O) (AH (AL O (kp [6,3,2] O) (AC (AH (Af O az Ik D2 O λcq bp=>Al A6 ae.1 O bp G9 O λbq a0=>Ak O a0 E3 O λcr=>AA O (AM (kp [15,14,13,6,3,2] O) (Aj (λa w=>∃(K:Int),IV B S9 an (76,[]) a w [(3,q8),(2,q1),(6,vI K)] (L) λ_ _=>AE K∧EI N m j K=some r) ?_ ?_))))))))))))
 ·refine A3 (λn1=>λa w=>∃(H:Int) (M:Int),IV B S9 an (76,[]) a w [(14,vI (↑j.Own.length:Int)),(13,bq),(3,q8),(2,q1),(6,vI H),(15,vI M)] (L) λ_ _=>AE H∧AE M∧EH N m j (EI N m j) n1 H M=some r) N ?_ ?_ ?_
  ·intro p s b i
   exact⟨0,0,_,_,b.sub (kp [14,13,3,2,6,15] O),i,ae,(B9.refl S9 an),(iq (n:=0) O),(iq (n:=0) O),E⟩
  ·rintro p s ⟨_,_,_,_,_,_,_,_,_,_,E⟩
   rw[EH] at E;cases E
  rintro n1 p s ⟨H,M,cs,ct,b,i,z,I,br,cu,E⟩
  refine Ac ?_ b i
  clear b i s p
  rw[EH] at E
  refine AH (Ao O (AM (kp [16,14,13,3,2,6,15] O) (AC (AX O E (λbs E=>?_) (λbs E=>?_)))))
  ·refine AO (AC (A8 (AH ?_)))
   obtain⟨cv,a1,E⟩:=bd E
   refine A9 O O (a0.mono' I) E3 a1 O λcw bt=>Al A6 z.1 O bt BX O λcx a2=>AL O (kp [8,14,13,3,2,6,15] O) (AC (AC (Bt (.inl O) z (AA O (Af O (k6.mono (y.trans I)) Dq HT O λcy bu=>Al Bg z.1 O bu KI O λcz bv=>Ak O bv Jx O λbw=>?_)))))
   obtain⟨c0,a3,E⟩:=bd E
   refine A5 O O O ZY O (λh' o=>MQ (St.all h') (a2.mono' (o.all z.1)) (JY bw) a3) (BZ O (BQ (kp [24,8,14,13,3,2,6,15] O) λc1 Q ac=>AX O E (λbx E=>?_) (λbx E=>?_)))
   ·refine AH (AY O (AL O (kp [5,4] O) (Ad (λp s b i=>?_))))
    cases E
    exact KD b O i (IF (Ir b (v:=_) O) (IF (Ir b (v:=_) O) KC)) O (e5.trans (y.trans (I.trans ac))) ⟨O,(iq (n:=0) O),Q⟩
   refine AO (AC (Bt (.inl O) Q (AA O (AA O ?_))))
   obtain⟨bz,a4,E⟩:=bd E
   refine CX O O O NG O (λh' o=>Ek (St.all h') ((a2.mono' ac).mono' (o.all Q.1)) a4) λb0=>?_
   have c2:=b0
   refine Ai O (AY O (BQ (kp [6,14,13,3,2,15] O) λc3 af a5=>AH (AA O (Bk O (AM (kp [30,6,14,13,3,2,15] O) (AX O E (λb1 E=>?_) (λb1 E=>?_)))))))
   ·refine AH (AY O (AL O (kp [5,4] O) (Ad (λp s b i=>?_))))
    cases E
    exact KD b O i (IF (Ir b (v:=_) O) (IF (Ir b (v:=_) O) KC)) O (e5.trans (y.trans (I.trans (ac.trans a5)))) ⟨O,(iq (n:=0) O),af⟩
   refine AO (BP (BY (.inl O) (Ai O (AA O (AM (kp [15,6,14,13,3,2] O) (WF.nil (λp s b i=>?_)))))))
   exact⟨(BM (H+bz)),(BM (M+1)),_,_,b.sub (kp [14,13,3,2,6,15] O),i,af,(I.trans (ac.trans a5)),(BG _),(BG _),E⟩
  refine BA O (λp s b i=>?_)
  exact⟨H,_,_,b.sub (kp [3,2,6] O),i,z,I,br,E⟩
 rintro p s ⟨K,ao,ap,b,i,ag,J,b2,E⟩
 refine Ac ?_ b i
 clear b i s p
 rw[EI] at E
 refine AC (AH ?_)
 have a6:=az.mono J
 refine Af O a6 FZ IL O λc4 b3=>Al A6 ag.1 O b3 Ju O λb4 a7=>Ak O a7 Im O λc5=>AA O (AM (kp [35,34,33,3,2,6] O) (Aj (λa w=>∃(ad:Int),IV B ao ap (76,[]) a w [(6,vI ad)] (L) λ_ _=>AE ad∧Gj N ad=some r) ?_ ?_))
 ·refine A3 (λn3=>λa w=>∃(C:Int) (U:Int),IV B ao ap (76,[]) a w [(34,vI (↑j.Queue.length:Int)),(33,b4),(3,q8),(2,q1),(6,vI C),(35,vI U)] (L) λ_ _=>AE C∧AE U∧E4 N m j (Gj N) n3 C U=some r) N ?_ ?_ ?_
  ·intro p s b i
   exact⟨K,0,_,_,b.sub (kp [34,33,3,2,6,35] O),i,ag,(B9.refl ao ap),b2,(iq (n:=0) O),E⟩
  ·rintro p s ⟨_,_,_,_,_,_,_,_,_,_,E⟩
   rw[E4] at E;cases E
  rintro n3 p s ⟨C,U,c6,c7,b,i,V,A,b5,c8,E⟩
  refine Ac ?_ b i
  clear b i s p
  rw[E4] at E
  refine AH (Ao O (AM (kp [36,34,33,3,2,6,35] O) (AC (AX O E (λb6 E=>?_) (λb6 E=>?_)))))
  ·refine AO (AC (A8 (WF.sl (AI 2 ?_))))
   obtain⟨W,a8,E⟩:=bd E
   refine A9 O O (a7.mono' A) Im a8 O λc9 b7=>B6 A6 V.1 O b7 Kx (λe=>by cases e) O λda b8=>AG (Cn QY O V λdb dc a9 D=>?_)
   obtain⟨ah,rfl,ca,ba,X⟩:=Ar.ex (b8.mono D)
   refine HM (vs:=[vI W.At,vI W.To,ah]) (cs':=[vI W.At,vI W.To,ah]) O O O (AF O (AF O (AF X.one EG))) Kx O a9 .head O O λcb c k=>AZ (kp [10,34,33,3,2,6,35] O) (AC (AC (Bt (.inl O) c (AD Mv O (AT Bg c O mh O Ae O (Af O (a6.mono (A.trans (D.trans k))) Am.f_Hour IM O λcc bb=>Ag Bg c.1 O bb Ae O λcd=>Ao O (AA O ?_)))))))
   obtain⟨ai,d,E⟩:=bd E
   refine AV 8 52 (.bool ai) ?_ ?_
   ·cases aj:(decide (W.At<j.Hour))
    ·have d:=GM aj d
     refine AB O (AD KV O (AB O (AT Bg c O mh O Ae O (AB O (Af O (k6.mono (y.trans (J.trans (A.trans (D.trans k))))) BO C0 O λce bc=>AB O (Al Bg c.1 O bc Fq O λcf be=>AB O (Ak O be Ez O λbf=>AB O ?_)))))))
     obtain⟨cg,aq,d⟩:=bd d
     refine A5 O O O Of O (λh' o=>Fx (St.all h') ba (JY bf) aq) (AB O (BZ O (AJ O ?_)))
     cases d
     exact AU O
    have d:=GL aj d
    cases d
    exact Aa O O
   refine AA O ?_
   obtain⟨bg,g,E⟩:=bd E
   refine AV 8 61 (.bool bg) ?_ ?_
   ·cases ak:ai
    ·have g:=GM ak g
     refine AB O (AD KU O (AB O (AT Bg c O mh O BX O (AB O (Af O (k6.mono (y.trans (J.trans (A.trans (D.trans k))))) Dq HT O λch bh=>AB O (Al Bg c.1 O bh KI O λci bi=>AB O (Ak O bi Jx O λbj=>AB O ?_)))))))
     obtain⟨cj,ar,g⟩:=bd g
     refine A5 O O O ZY O (λh' o=>MQ (St.all h') ((X.mono' k).mono' (o.all c.1)) (JY bj) ar) (AB O (BZ O (AJ O ?_)))
     cases g
     exact AU O
    have g:=GL ak g
    cases g
    exact Aa O O
   refine BQ (kp [61,10,34,33,3,2,6,35] O) λck x F=>AX O E (λbk E=>?_) (λbk E=>?_)
   ·refine AH (AY O (AL O (kp [5,4] O) (Ad (λp s b i=>?_))))
    have au:=x.drop .head
    cases E
    exact KD b O i (IF (Ir b (v:=_) O) (IF (Ir b (v:=_) O) KC)) O (e5.trans (y.trans (J.trans (A.trans (D.trans (k.trans F)))))) ⟨O,(iq (n:=0) O),au⟩
   refine AO (AC (Bt (.inl O) x (AD KU O (AT Bg x O mh O BX O ?_))))
   obtain⟨G,av,E⟩:=bd E
   refine CX O O O NG O (λh' o=>Ek (St.all h') ((X.mono' (k.trans F)).mono' (o.all x.1)) av) λbl=>?_
   have cl:=bl
   refine AY O (BQ (kp [11,34,33,3,2,6,35] O) λcm Y am=>AH (AA O (AA O (Ai O (AL O (kp [6,11,34,33,3,2,35] O) (AH (AA O (Fv O (AA O (AV 3 73 (.bool ((decide (G≤0))||(decide (1125899906842624<(BM (C+G)))))) ?_ ?_))))))))))
   ·cases cn:(decide (G≤0))
    ·exact AB O (AA O (AB O (Bk O (AJ O (AU O)))))
    exact Aa O O
   refine AM (kp [73,6,34,33,3,2,35] O) (AX O E (λbm E=>?_) (λbm E=>?_))
   ·refine AH (AY O (AL O (kp [5,4] O) (Ad (λp s b i=>?_))))
    have aw:=Y.drop .head
    cases E
    exact KD b O i (IF (Ir b (v:=_) O) (IF (Ir b (v:=_) O) KC)) O (e5.trans (y.trans (J.trans (A.trans (D.trans (k.trans (F.trans am))))))) ⟨O,(iq (n:=0) O),aw⟩
   refine AO (BP (BY (.inl O) (Ai O (AA O (AM (kp [35,6,34,33,3,2] O) (WF.nil (λp s b i=>?_)))))))
   have ax:=Y.drop .head
   exact⟨(BM (C+G)),(BM (U+1)),_,_,b.sub (kp [34,33,3,2,6,35] O),i,ax,(A.trans (D.trans (k.trans (F.trans am)))),(BG _),(BG _),E⟩
  refine BA O (λp s b i=>?_)
  exact⟨C,_,_,b.sub (kp [6] O),i,V,A,b5,E⟩
 rintro p s ⟨ad,co,cp,b,i,ay,bn,b9,E⟩
 refine Ac ?_ b i
 clear b i s p
 rw[Gj] at E
 refine AH (AA O (AY O (AL O (kp [5,4] O) (Ad (λp s b i=>?_)))))
 cases E
 exact KD b O i (IF (Ir b (v:=_) O) (IF (Ir b (v:=_) O) KC)) O (e5.trans (y.trans (J.trans bn))) ⟨O,b9,ay⟩
end Go.Proofs.YtblcgjadhemlbaaGreat
