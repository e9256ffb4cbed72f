import Derived.Test.YtblcgjadhemlbaaGreatQWalk6
namespace Go.Proofs.YtblcgjadhemlbaaGreat
open Go.RowKit
set_option linter.unusedVariables false
set_option linter.unusedSimpArgs false
set_option maxRecDepth 10000
set_option maxHeartbeats 2000000
variable {N:Nat}{S:Nat→Prop}{L:List HP}{h:Aq}
theorem NG (hs:St S L h) {d:Value}{s:Au}(m:Rd S h Bh d s) {g:Value}{b:Ak}(o:Rd S h A4 g b) {c:Int}(i:AI c) {r:Ak}(E:H5 N s b c=some r):
 CG Tryz.prog 22 #[d,g,.int .i64 c] S h (λv S' h'=>v= .agg #[.int .i64 r.Pos,.int .i64 r.Target,.bool r.Stuck,.bool r.Open]∧Ak.ok r∧St S' (L) h'):=by
 refine BC (l:=[d,g,.int .i64 c]) 16 Tryz.func22 O Tryz.ntmps22 O λB=>?_
 rw[H5] at E
 refine AA (Am (B1 O m (λe=>by cases e) O hs λq1 S2 h3 V e5 k6=>?_))
 have k7:=o.mono e5
 obtain⟨rfl,⟨r9,W⟩⟩:=A4.ex k7
 refine PG O O O V λz ai A C=>Cg Pd O A λD F j G=>AX (kp [6,4,3,2] O) (AA (AA (AG (.inl O) ?_)))
 have H:=k6.mono (C.trans G)
 refine Ac O H Dz Ix O λaj X=>Af A3 j.1 O X Ae O λak=>CH O O O (AD (kp [9,6,4,3,2] O) (GW (λa w=>∃(k:Int),IV B S2 F (16,[]) a w [(6,.pointer (some ⟨D,0,none⟩)),(4,.pointer (some ⟨z,0,none⟩))] (Bx D 69 [.int .i64 0,.int .i64 0,.bool false,.bool false]::Bx z 69 [.int .i64 b.Pos,.int .i64 k,.bool b.Stuck,.bool b.Open]::L) λ_ _=>AI k∧JU N b k=some r) ?_ ?_))
 ·refine AW O (λx=>?_) (λx=>?_)
  ·have E:=BU x E
   refine Am (AJ 3 (AB O O (Ac O H Dz Ix O λam Y=>Af A3 j.1 O Y Ae O λZ=>AE ?_)))
   obtain⟨y,I,E⟩:=bd E
   refine Bb O O O TP O j (Ij (St.all _) i (iq (n:=0) O) Z I) λan ao ap J ab aq p=>?_
   obtain⟨rfl,ac,ah⟩:=p
   refine AJ 1 (AL O OX O (AE (HY (vs:=[.int .i64 y]) (cs':=[.int .i64 b.Pos,.int .i64 y,.bool b.Stuck,.bool b.Open]) O O O O Ae O J (.tail .head) O O λar K ad=>AX (kp [6,4] O) (WF.nil (λaa ww hf hw=>?_)))))
   exact⟨y,_,_,hf.sub (kp [6,4] O),hw,K,(ab.trans ad),ac,E⟩
  have E:=BV x E
  refine AT (WF.nil (λaa ww hf hw=>?_))
  exact⟨b.Target,_,_,hf.sub (kp [6,4] O),hw,j,(B8.refl S2 F),W,E⟩
 rintro aa ww ⟨k,au,av,hf,hw,t,ae,af,E⟩
 refine Ad ?_ hf hw
 clear hf hw ww aa
 rw[JU] at E
 refine AA (Am (AJ 1 (Cj (vs:=[.int .i64 b.Pos,.int .i64 k,.bool b.Stuck,.bool b.Open]) A3 t O (mt mh) O O Eo O O (AE (DD (vs:=[.int .i64 b.Pos,.int .i64 k,.bool b.Stuck,.bool b.Open]) O O O O Eo O t .head O λaw M ag=>AX (kp [6] O) (Ab (λaa ww hf hw=>?_)))))))
 have u:=M.drop (.tail .head)
 have Q:=u.drop .head
 cases E
 have U:=e5.trans (C.trans (G.trans (ae.trans ag)))
 exact Jn hf O hw (Hn (V8 hf hw u O mh Eo O) Jm) O U ⟨O,⟨r9,af⟩,Q⟩
theorem IZ (hs:St S L h) {b:Int}(c:AI b) {a:Int}(d:AI a) {r:Int}(E:FQ N b a=some r):
 CG Tryz.prog 46 #[.int .i64 b,.int .i64 a] S h (λv S' h'=>v= .int .i64 r∧AI r∧St S' (L) h'):=by
 refine BC (l:=[.int .i64 b,.int .i64 a]) 24 Tryz.func46 O Tryz.ntmps46 O λB=>?_
 rw[FQ] at E
 refine AA (AG (.inl O) (AF O O (AD (kp [0,1] O) (AA (AA (AG (.inl O) (AB O O (A0 O O O (AB O O (AV 5 12 (.bool ((decide (a<0))&&(decide ((BD (9223372036854775807+a))<b)))) ?_ ?_))))))))))
 ·cases j:(decide (a<0))
  ·exact Aa O O
  exact AC O O O (AB O O (AC O O O (AB O O (AC O O O (Ap O O O (AC O O O (CE O O O (AO O O O (AU O)))))))))
 refine AD (kp [12,0,1] O) (AW O (λg=>?_) (λg=>?_))
 ·have E:=BU g E
  refine AA (AG (.inl O) (AF O O (AD (kp [4] O) (Ab (λaa ww hf hw=>?_)))))
  cases E
  exact Dp hf hw O O (B8.refl S h) ⟨O,(iq (n:=9223372036854775807) O),hs⟩
 have E:=BV g E
 refine AT (AA (AA (AG (.inl O) (AB O O (CE O O O (AB O O (AV 5 20 (.bool ((decide (0<a))&&(decide (b<(BD ((-9223372036854775808)+a)))))) ?_ ?_)))))))
 ·cases k:(decide (0<a))
  ·exact Aa O O
  exact AC O O O (AB O O (AC O O O (AB O O (AC O O O (Ap O O O (AC O O O (A0 O O O (AO O O O (AU O)))))))))
 refine AD (kp [20,0,1] O) (AW O (λi=>?_) (λi=>?_))
 ·have E:=BU i E
  refine AA (AG (.inl O) (AF O O (AD (kp [4] O) (Ab (λaa ww hf hw=>?_)))))
  cases E
  exact Dp hf hw O O (B8.refl S h) ⟨O,(iq (n:=(-9223372036854775808)) O),hs⟩
 have E:=BV i E
 refine AT (AA (AG (.inl O) (AB O O (AB O O (Dg O O O (AF O O (AD (kp [4] O) (Ab (λaa ww hf hw=>?_)))))))))
 cases E
 exact Dp hf hw O O (B8.refl S h) ⟨O,(BG _),hs⟩
theorem Mi (hs:St S L h) {c:Value}{k:Au}(g:Rd S h Bh c k) {d:Value}{a:Ak}(i:Rd S h A4 d a) {r:Ak}(E:Gy N k a=some r):
 CG Tryz.prog 24 #[c,d] S h (λv S' h'=>v= .agg #[.int .i64 r.Pos,.int .i64 r.Target,.bool r.Stuck,.bool r.Open]∧Ak.ok r∧St S' (L) h'):=by
 refine BC (l:=[c,d]) 26 Tryz.func24 O Tryz.ntmps24 O λB=>?_
 rw[Gy] at E
 refine AA (Am (B1 O g (λe=>by cases e) O hs λq1 S2 h3 W X k6=>?_))
 have k7:=i.mono X
 obtain⟨rfl,⟨Y,w⟩⟩:=A4.ex k7
 refine PG O O O W λau av A x=>Cg Pd O A λaw ax b y=>AX (kp [4,3,2] O) (AA (AA (AG (.inl O) (AL O OV O (AS A3 b O (mt mh) O Ng O (AD (kp [7,4,3,2] O) (AW O (λz=>?_) (λz=>?_))))))))
 ·have E:=BU z E
  refine AA (Am (AJ 1 (Cj (vs:=[.int .i64 a.Pos,.int .i64 a.Target,.bool a.Stuck,.bool a.Open]) A3 b O (mt mh) O O Eo O O (AE (DD (vs:=[.int .i64 a.Pos,.int .i64 a.Target,.bool a.Stuck,.bool a.Open]) O O O O Eo O b .head O λay C Z=>AX (kp [4] O) (Ab (λaa ww hf hw=>?_)))))))
  have m:=C.drop (.tail .head)
  have D:=m.drop .head
  cases E
  have F:=X.trans (x.trans (y.trans Z))
  exact Jn hf O hw (Hn (V8 hf hw m O mh Eo O) Jm) O F ⟨O,⟨Y,w⟩,D⟩
 have E:=BV z E
 refine AT (AA (Bn (.inr ⟨mo,by kernel_rfl⟩) b (AL O OX O (AS BZ b O (mt mh) O Ae O (AL O KU O (AS BZ b O (mt mh) O Ae O ?_))))))
 obtain⟨az,G,E⟩:=bd E
 refine CM O O O Rp O (λh' o=>IZ (St.all h') w Y G) λab=>?_
 have ac:=ab
 have H:=k6.mono (x.trans y)
 refine Ac O H Ib K8 O λa0 ad=>Af BZ b.1 O ad Ae O λae=>?_
 obtain⟨a1,I,E⟩:=bd E
 refine CM O O O Rp O (λh' o=>IZ (St.all h') (iq (n:=0) O) ae I) λaf=>?_
 have ag:=af
 refine Ac O H Ib K8 O λa2 ah=>Af BZ b.1 O ah Ae O λai=>?_
 obtain⟨a3,J,E⟩:=bd E
 refine CM O O O TP O (λh' o=>Ij (St.all h') ac ag ai J) λaj=>?_
 have ak:=aj
 refine AF O O (BK (kp [5,4,3] O) λa4 s am=>AA (Am (AJ 3 (AL O KU O (AS A3 s O (mt mh) O Ae O (AB O O (AE ?_)))))))
 obtain⟨j,K,E⟩:=bd E
 refine Bb O O O P1 O s (Hp (St.all _) Y ak K) λa5 a6 a7 M an a8 p=>?_
 obtain⟨rfl,ao,ar⟩:=p
 refine AJ 1 (AL O KU O (AE (HY (vs:=[.int .i64 j]) (cs':=[.int .i64 j,.int .i64 a.Target,.bool a.Stuck,.bool a.Open]) O O O O Ae O M (.tail .head) O O λa9 t ap=>AX (kp [4,3] O) (AA (Am (AJ 1 (Cj (vs:=[.int .i64 j,.int .i64 a.Target,.bool a.Stuck,.bool a.Open]) A3 t O (mt mh) O O Eo O O (AE (DD (vs:=[.int .i64 j,.int .i64 a.Target,.bool a.Stuck,.bool a.Open]) O O O O Eo O t .head O λba Q aq=>AX (kp [4] O) (Ab (λaa ww hf hw=>?_)))))))))))
 have u:=Q.drop (.tail .head)
 have U:=u.drop .head
 cases E
 have V:=X.trans (x.trans (y.trans (am.trans (an.trans (ap.trans aq)))))
 exact Jn hf O hw (Hn (V8 hf hw u O mh Eo O) Jm) O V ⟨O,⟨ao,w⟩,U⟩
theorem MX {A:Nat}{p0_w:Ai}{I:Value}{J:Value}{H:Value}{K:Value}{M:Value}{Q:Value}{U:Value}{V:Value}{C:Value}{y:Value}{z:Value}{D:Value}{F:Value}{c:Value}{d:Value}{G:Value}{u:Value}{g:Value}{j:Value}{k:Value}{m:Value}{p:Value}(hs:St S (Bx A 84 [.string p0_w.b.Name,I,.int .i64 p0_w.b.Cells,J,H,K,M,Q,U,V,.int .i64 p0_w.b.Err,C,y,z,D,F,.int .i64 p0_w.s.Hour,c,d,G,u,g,j,k,m,p]::OO AN.int 3 29 c p0_w.s.Own::OS AN.int 3 d p0_w.s.Rem::OS A4 69 u p0_w.s.Gates::OS AN.int 3 g p0_w.s.In::OS AN.int 3 j p0_w.s.Out::OS BT 50 k p0_w.moves::OS AN.int 3 m p0_w.peaks::OS An 60 p p0_w.sent::L) h) (cx:p0_w.b.Name.size≤maxLen) (cy:Sl S h AN.str I p0_w.b.Owners) (cz:AI p0_w.b.Cells) (c0:Sl S h Br J p0_w.b.Places) (Z:Sl S h Bh H p0_w.b.Links) (c1:Sl S h F6 K p0_w.b.Towns) (c2:Sl S h D4 M p0_w.b.Gauges) (c3:Sl S h Fo Q p0_w.b.Roads) (c4:Sl S h Cw U p0_w.b.Shelters) (c5:Sl S h AN.int V p0_w.b.Room) (bm:AI p0_w.b.Err) (bn:Sl S h AN.int C p0_w.in_.Rain) (ab:Sl S h Ek y p0_w.in_.Faults) (af:Sl S h Hg z p0_w.in_.Cmds) (bo:Sl S h FJ D p0_w.in_.Takes) (bp:Sl S h F7 F p0_w.in_.Swaps) (bq:AI p0_w.s.Hour) (br:Sl S h An G p0_w.s.Queue) {r:(List Ak)}(E:Gt N p0_w=some r):
 CG Tryz.prog 30 #[.pointer (some ⟨A,0,none⟩)] S h (λv S' h'=>∃w_0_20:Value,v= .tuple #[]∧St S' (Bx A 84 [.string p0_w.b.Name,I,.int .i64 p0_w.b.Cells,J,H,K,M,Q,U,V,.int .i64 p0_w.b.Err,C,y,z,D,F,.int .i64 p0_w.s.Hour,c,d,G,w_0_20,g,j,k,m,p]::OO AN.int 3 29 c p0_w.s.Own::OS AN.int 3 d p0_w.s.Rem::OS A4 69 w_0_20 r::OS AN.int 3 g p0_w.s.In::OS AN.int 3 j p0_w.s.Out::OS BT 50 k p0_w.moves::OS AN.int 3 m p0_w.peaks::OS An 60 p p0_w.sent::L) h'):=by
 refine BC (l:=[.pointer (some ⟨A,0,none⟩)]) 135 Tryz.func30 O Tryz.ntmps30 O λB=>?_
 rw[Gt] at E
 refine AA (AA (AG (.inl O) (AB O O (CI O O (AL O MN O (AL O MQ O (AS A3 hs O mh O Pi O (Ag O ab Oj O λb1=>AB O O (AD (kp [14,13,12,0] O) (Aj (λa w=>∃(l2:List Ak),IV B S h (135,[]) a w [(0,.pointer (some ⟨A,0,none⟩))] (Bx A 84 [.string p0_w.b.Name,I,.int .i64 p0_w.b.Cells,J,H,K,M,Q,U,V,.int .i64 p0_w.b.Err,C,y,z,D,F,.int .i64 p0_w.s.Hour,c,d,G,u,g,j,k,m,p]::OO AN.int 3 29 c p0_w.s.Own::OS AN.int 3 d p0_w.s.Rem::OS A4 69 u l2::OS AN.int 3 g p0_w.s.In::OS AN.int 3 j p0_w.s.Out::OS BT 50 k p0_w.moves::OS AN.int 3 m p0_w.peaks::OS An 60 p p0_w.sent::L) λ_ _=>Cd N p0_w l2=some r) ?_ ?_))))))))))
 ·refine Ay (λn1=>λa w=>∃(i6:Int) (l8:List Ak),IV B S h (135,[]) a w [(13,.int .i64 (↑p0_w.in_.Faults.length:Int)),(12,y),(0,.pointer (some ⟨A,0,none⟩)),(14,.int .i64 i6)] (Bx A 84 [.string p0_w.b.Name,I,.int .i64 p0_w.b.Cells,J,H,K,M,Q,U,V,.int .i64 p0_w.b.Err,C,y,z,D,F,.int .i64 p0_w.s.Hour,c,d,G,u,g,j,k,m,p]::OO AN.int 3 29 c p0_w.s.Own::OS AN.int 3 d p0_w.s.Rem::OS A4 69 u l8::OS AN.int 3 g p0_w.s.In::OS AN.int 3 j p0_w.s.Out::OS BT 50 k p0_w.moves::OS AN.int 3 m p0_w.peaks::OS An 60 p p0_w.sent::L) λ_ _=>AI i6∧CO N p0_w (Cd N p0_w) n1 i6 l8=some r) N ?_ ?_ ?_
  ·intro aa ww hf hw
   exact⟨0,p0_w.s.Gates,_,_,hf.sub (kp [13,12,0,14] O),hw,hs,(B8.refl S h),(iq (n:=0) O),E⟩
  ·rintro aa ww ⟨_,_,_,_,_,_,_,_,_,E⟩
   rw[CO] at E;cases E
  rintro n1 aa ww ⟨i6,l8,S9,e7,hf,hw,an,ao,r7,E⟩
  refine Ad ?_ hf hw
  clear hf hw ww aa
  rw[CO] at E
  refine AA (AG (.inl O) (A0 O O O (AD (kp [15,13,12,0,14] O) (AA (AW O (λbs=>?_) (λbs=>?_))))))
  ·have E:=BU bs E
   refine AT (AA (Aj (λa w=>∃(a4:List Ak),IV B S9 e7 (135,[]) a w [(13,.int .i64 (↑p0_w.in_.Faults.length:Int)),(12,y),(0,.pointer (some ⟨A,0,none⟩)),(14,.int .i64 i6)] (Bx A 84 [.string p0_w.b.Name,I,.int .i64 p0_w.b.Cells,J,H,K,M,Q,U,V,.int .i64 p0_w.b.Err,C,y,z,D,F,.int .i64 p0_w.s.Hour,c,d,G,u,g,j,k,m,p]::OO AN.int 3 29 c p0_w.s.Own::OS AN.int 3 d p0_w.s.Rem::OS A4 69 u a4::OS AN.int 3 g p0_w.s.In::OS AN.int 3 j p0_w.s.Out::OS BT 50 k p0_w.moves::OS AN.int 3 m p0_w.peaks::OS An 60 p p0_w.sent::L) λ_ _=>Fi N i6 (CO N p0_w (Cd N p0_w) n1) a4=some r) ?_ ?_))
   ·refine AA (Am (AJ 2 ?_))
    have e8:=ab.mono' ao
    obtain⟨a5,c6,E⟩:=bd E
    refine A8 O O e8 Oj c6 O λgx e9=>Bw A3 an.1 O e9 XI (λe=>by cases e) O λgy fa=>AE (Cg ZH O an λgz g0 c7 ap=>?_)
    have fb:=fa.mono ap
    obtain⟨rfl,⟨fc,fd⟩⟩:=Ek.ex fb
    refine DD (vs:=[.int .i64 a5.Kind,.int .i64 a5.Link]) O O O O XI O c7 .head O λg1 aq a6=>AX (kp [3,13,12,0,14] O) (AA (Bn (.inr ⟨mo,by kernel_rfl⟩) aq (AL O NK O (AS BZ aq O mh O Ae O (AB O O (CI O O (AL O Fq O (AL O Ft O (AS BZ aq O (mt mh) O Ir O ?_)))))))))
    have c8:=ao.trans (ap.trans a6)
    have fe:=Z.mono' c8
    refine Ag O fe G4 O λff=>?_
    obtain⟨g2,c9,E⟩:=bd E
    refine Aw O O O N5 O (λh' o=>Fe (St.all h') fd (JE ff) c9) (BK (kp [26,3,13,12,0,14] O) λg3 X bt=>AW O (λbu=>?_) (λbu=>?_))
    ·have E:=BU bu E
     refine JM 29 mo (by kernel_rfl) O X (AB O O (CI O O (AL O CV O (AL O Fb O (AS BZ X O (mt mh) O IQ O (AL O NK O (AS BZ X O mh O Ae O (AB O O (CI O O (AL O Fq O (AL O Ft O (AS BZ X O (mt mh) O Ir O (AL O NK O (AS BZ X O mh O Ae O ?_))))))))))))))
     have da:=ao.trans (ap.trans (a6.trans bt))
     have fg:=Z.mono' da
     obtain⟨g4,db,E⟩:=bd E
     refine A8 O O fg G4 db O λg5 fh=>Bw BZ X.1 O fh F8 (λe=>by cases e) O λg6 fi=>AB O O (CI O O (AL O CV O (AL O Fb O (AS BZ X O (mt mh) O IQ O (AL O NK O (AS BZ X O mh O Ae O ?_))))))
     obtain⟨g7,dc,E⟩:=bd E
     refine A5 X (mt (mt (mt (mt mh)))) O O IL dc O λg8 dd=>?_
     obtain⟨g9,de,E⟩:=bd E
     have fj:=X.epAt (mt (mt (mt (mt mh)))) de El.id dd
     refine Bw BZ (λ_ x=>x) O fj Eo (λe=>by cases e) O λha fk=>AL O TH O (AS BZ X O mh O Ae O ?_)
     obtain⟨df,dg,E⟩:=bd E
     refine CM O O O Xt O (λh' o=>Lt (St.all h') (fi.mono (o.all X.1)) (fk.mono (o.all X.1)) fc dg) λfl=>?_
     obtain⟨fm,fn⟩:=fl
     obtain⟨hb,dh,E⟩:=bd E
     refine A5 X (mt (mt (mt (mt mh)))) O O IL dh O λhc di=>IJ λhd dj fo=>?_
     obtain⟨fp,dk,E⟩:=bd E
     refine Ef (r:=A4) (l:=l8) (i:=a5.Link) (x:=fp) O O (A4.mk (x:=df) ⟨fm,fn⟩) di dk LG.id Eo (λe=>by cases e) dj (.tail (.tail (.tail (.tail .head)))) λhe dl fq=>AX (kp [13,12,0,14] O) (WF.nil (λaa ww hf hw=>?_))
     have dm:=dl.sel [1,1,1,1,1,1,1,1,1] 1 O
     have dn:=ap.trans (a6.trans (bt.trans (fo.trans fq)))
     exact⟨(upd l8 a5.Link df),_,_,hf.sub (kp [13,12,0,14] O),hw,dm,dn,E⟩
    have E:=BV bu E
    refine AT (WF.nil (λaa ww hf hw=>?_))
    have dp:=X.sel [1,1,1,1,1,1,1,1,1] 1 O
    have dq:=ap.trans (a6.trans bt)
    exact⟨l8,_,_,hf.sub (kp [13,12,0,14] O),hw,dp,dq,E⟩
   rintro aa ww ⟨a4,hg,hh,hf,hw,dr,fr,E⟩
   refine Ad ?_ hf hw
   clear hf hw ww aa
   rw[Fi] at E
   refine AG (.inl O) (Ap O O O (AB O O (AD (kp [14,13,12,0] O) (WF.nil (λaa ww hf hw=>?_)))))
   exact⟨(BD (i6+1)),a4,_,_,hf.sub (kp [13,12,0,14] O),hw,dr,(ao.trans fr),(BG _),E⟩
  have E:=BV bs E
  refine BB O (λaa ww hf hw=>?_)
  exact⟨l8,_,_,hf.sub (kp [0] O),hw,an,ao,E⟩
 rintro aa ww ⟨l2,bv,bw,hf,hw,ba,ar,E⟩
 refine Ad ?_ hf hw
 clear hf hw ww aa
 rw[Cd] at E
 refine AA (AA (AG (.inl O) (AB O O (CI O O (AL O MN O (AL O NQ O (AS A3 ba O mh O Q5 O ?_)))))))
 have ds:=af.mono' ar
 refine Ag O ds Pj O λhi=>AB O O (AD (kp [63,62,61,0] O) (Aj (λa w=>∃(a7:List Ak),IV B bv bw (135,[]) a w [(0,.pointer (some ⟨A,0,none⟩))] (Bx A 84 [.string p0_w.b.Name,I,.int .i64 p0_w.b.Cells,J,H,K,M,Q,U,V,.int .i64 p0_w.b.Err,C,y,z,D,F,.int .i64 p0_w.s.Hour,c,d,G,u,g,j,k,m,p]::OO AN.int 3 29 c p0_w.s.Own::OS AN.int 3 d p0_w.s.Rem::OS A4 69 u a7::OS AN.int 3 g p0_w.s.In::OS AN.int 3 j p0_w.s.Out::OS BT 50 k p0_w.moves::OS AN.int 3 m p0_w.peaks::OS An 60 p p0_w.sent::L) λ_ _=>Cc N p0_w a7=some r) ?_ ?_))
 ·refine Ay (λn4=>λa w=>∃(ag:Int) (ah:List Ak),IV B bv bw (135,[]) a w [(62,.int .i64 (↑p0_w.in_.Cmds.length:Int)),(61,z),(0,.pointer (some ⟨A,0,none⟩)),(63,.int .i64 ag)] (Bx A 84 [.string p0_w.b.Name,I,.int .i64 p0_w.b.Cells,J,H,K,M,Q,U,V,.int .i64 p0_w.b.Err,C,y,z,D,F,.int .i64 p0_w.s.Hour,c,d,G,u,g,j,k,m,p]::OO AN.int 3 29 c p0_w.s.Own::OS AN.int 3 d p0_w.s.Rem::OS A4 69 u ah::OS AN.int 3 g p0_w.s.In::OS AN.int 3 j p0_w.s.Out::OS BT 50 k p0_w.moves::OS AN.int 3 m p0_w.peaks::OS An 60 p p0_w.sent::L) λ_ _=>AI ag∧CN N p0_w (Cc N p0_w) n4 ag ah=some r) N ?_ ?_ ?_
  ·intro aa ww hf hw
   exact⟨0,l2,_,_,hf.sub (kp [62,61,0,63] O),hw,ba,(B8.refl bv bw),(iq (n:=0) O),E⟩
  ·rintro aa ww ⟨_,_,_,_,_,_,_,_,_,E⟩
   rw[CN] at E;cases E
  rintro n4 aa ww ⟨ag,ah,fs,ft,hf,hw,au,av,hj,E⟩
  refine Ad ?_ hf hw
  clear hf hw ww aa
  rw[CN] at E
  refine AA (AG (.inl O) (A0 O O O (AD (kp [64,62,61,0,63] O) (AA (AW O (λbx=>?_) (λbx=>?_))))))
  ·have E:=BU bx E
   refine AT (AA (Aj (λa w=>∃(a8:List Ak),IV B fs ft (135,[]) a w [(62,.int .i64 (↑p0_w.in_.Cmds.length:Int)),(61,z),(0,.pointer (some ⟨A,0,none⟩)),(63,.int .i64 ag)] (Bx A 84 [.string p0_w.b.Name,I,.int .i64 p0_w.b.Cells,J,H,K,M,Q,U,V,.int .i64 p0_w.b.Err,C,y,z,D,F,.int .i64 p0_w.s.Hour,c,d,G,u,g,j,k,m,p]::OO AN.int 3 29 c p0_w.s.Own::OS AN.int 3 d p0_w.s.Rem::OS A4 69 u a8::OS AN.int 3 g p0_w.s.In::OS AN.int 3 j p0_w.s.Out::OS BT 50 k p0_w.moves::OS AN.int 3 m p0_w.peaks::OS An 60 p p0_w.sent::L) λ_ _=>Fh N ag (CN N p0_w (Cc N p0_w) n4) a8=some r) ?_ ?_))
   ·refine AA (Am (AJ 2 ?_))
    have fu:=ds.mono' av
    obtain⟨a9,dt,E⟩:=bd E
    refine A8 O O fu Pj dt O λhk fv=>Bw A3 au.1 O fv XH (λe=>by cases e) O λfw du=>AE (Cg ZG O au λfx fy bz ad=>?_)
    have dv:=du.mono ad
    obtain⟨rfl,⟨dw,dx⟩⟩:=Hg.ex dv
    refine DD (vs:=[.int .i64 a9.Link,.int .i64 a9.Target]) O O O O XH O bz .head O λfz ai ak=>AX (kp [5,62,61,0,63] O) (AA (Bn (.inr ⟨mo,by kernel_rfl⟩) ai (AL O NJ O (AS BZ ai O mh O Ae O (AB O O (CI O O (AL O Fq O (AL O Ft O (AS BZ ai O (mt mh) O Ir O ?_)))))))))
    have b0:=ar.trans (av.trans (ad.trans ak))
    have dy:=Z.mono' b0
    refine Ag O dy G4 O λdz=>?_
    obtain⟨f0,b2,E⟩:=bd E
    refine Aw O O O N5 O (λh' o=>Fe (St.all h') dw (JE dz) b2) (BK (kp [75,5,62,61,0,63] O) λf1 W aw=>AW O (λax=>?_) (λax=>?_))
    ·have E:=BU ax E
     refine JM 29 mo (by kernel_rfl) O W (AB O O (CI O O (AL O CV O (AL O Fb O (AS BZ W O (mt mh) O IQ O (AL O NJ O (AS BZ W O mh O Ae O (AB O O (CI O O (AL O Fq O (AL O Ft O (AS BZ W O (mt mh) O Ir O (AL O NJ O (AS BZ W O mh O Ae O ?_))))))))))))))
     have b3:=ar.trans (av.trans (ad.trans (ak.trans aw)))
     have d0:=Z.mono' b3
     obtain⟨f2,b4,E⟩:=bd E
     refine A8 O O d0 G4 b4 O λf3 d1=>Bw BZ W.1 O d1 F8 (λe=>by cases e) O λf4 d2=>AB O O (CI O O (AL O CV O (AL O Fb O (AS BZ W O (mt mh) O IQ O (AL O NJ O (AS BZ W O mh O Ae O ?_))))))
     obtain⟨f5,b5,E⟩:=bd E
     refine A5 W (mt (mt (mt (mt mh)))) O O IL b5 O λf6 b6=>?_
     obtain⟨f7,b7,E⟩:=bd E
     have d3:=W.epAt (mt (mt (mt (mt mh)))) b7 El.id b6
     refine Bw BZ (λ_ x=>x) O d3 Eo (λe=>by cases e) O λf8 d4=>AL O TG O (AS BZ W O mh O Ae O ?_)
     obtain⟨bb,b8,E⟩:=bd E
     refine CM O O O Xs O (λh' o=>NG (St.all h') (d2.mono (o.all W.1)) (d4.mono (o.all W.1)) dx b8) λd5=>?_
     obtain⟨d6,d7⟩:=d5
     obtain⟨f9,b9,E⟩:=bd E
     refine A5 W (mt (mt (mt (mt mh)))) O O IL b9 O λga ca=>IJ λgb cb d8=>?_
     obtain⟨d9,cc,E⟩:=bd E
     refine Ef (r:=A4) (l:=ah) (i:=a9.Link) (x:=d9) O O (A4.mk (x:=bb) ⟨d6,d7⟩) ca cc LG.id Eo (λe=>by cases e) cb (.tail (.tail (.tail (.tail .head)))) λgc cd ea=>AX (kp [62,61,0,63] O) (WF.nil (λaa ww hf hw=>?_))
     have ce:=cd.sel [1,1,1,1,1,1,1,1,1] 1 O
     have cf:=ad.trans (ak.trans (aw.trans (d8.trans ea)))
     exact⟨(upd ah a9.Link bb),_,_,hf.sub (kp [62,61,0,63] O),hw,ce,cf,E⟩
    have E:=BV ax E
    refine AT (WF.nil (λaa ww hf hw=>?_))
    have cg:=W.sel [1,1,1,1,1,1,1,1,1] 1 O
    have ch:=ad.trans (ak.trans aw)
    exact⟨ah,_,_,hf.sub (kp [62,61,0,63] O),hw,cg,ch,E⟩
   rintro aa ww ⟨a8,gd,ge,hf,hw,ci,eb,E⟩
   refine Ad ?_ hf hw
   clear hf hw ww aa
   rw[Fh] at E
   refine AG (.inl O) (Ap O O O (AB O O (AD (kp [63,62,61,0] O) (WF.nil (λaa ww hf hw=>?_)))))
   exact⟨(BD (ag+1)),a8,_,_,hf.sub (kp [62,61,0,63] O),hw,ci,(av.trans eb),(BG _),E⟩
  have E:=BV bx E
  refine BB O (λaa ww hf hw=>?_)
  exact⟨ah,_,_,hf.sub (kp [0] O),hw,au,av,E⟩
 rintro aa ww ⟨a7,bc,be,hf,hw,ay,bf,E⟩
 refine Ad ?_ hf hw
 clear hf hw ww aa
 rw[Cc] at E
 refine AA (AG (.inl O) (AB O O (CI O O (AL O Fq O (AL O Ft O (AS A3 ay O mh O Ir O ?_))))))
 have bg:=Z.mono' (ar.trans bf)
 refine Ag O bg G4 O λgf=>AB O O (AD (kp [112,111,110,0] O) (A6 (Ay (λn6=>λa w=>∃(ac:Int) (ae:List Ak),IV B bc be (135,[]) a w [(111,.int .i64 (↑p0_w.b.Links.length:Int)),(110,H),(0,.pointer (some ⟨A,0,none⟩)),(112,.int .i64 ac)] (Bx A 84 [.string p0_w.b.Name,I,.int .i64 p0_w.b.Cells,J,H,K,M,Q,U,V,.int .i64 p0_w.b.Err,C,y,z,D,F,.int .i64 p0_w.s.Hour,c,d,G,u,g,j,k,m,p]::OO AN.int 3 29 c p0_w.s.Own::OS AN.int 3 d p0_w.s.Rem::OS A4 69 u ae::OS AN.int 3 g p0_w.s.In::OS AN.int 3 j p0_w.s.Out::OS BT 50 k p0_w.moves::OS AN.int 3 m p0_w.peaks::OS An 60 p p0_w.sent::L) λ_ _=>AI ac∧DW N p0_w n6 ac ae=some r) N ?_ ?_ ?_)))
 ·intro aa ww hf hw
  exact⟨0,a7,_,_,hf.sub (kp [111,110,0,112] O),hw,ay,(B8.refl bc be),(iq (n:=0) O),E⟩
 ·rintro aa ww ⟨_,_,_,_,_,_,_,_,_,E⟩
  rw[DW] at E;cases E
 rintro n6 aa ww ⟨ac,ae,gg,gh,hf,hw,aj,az,gi,E⟩
 refine Ad ?_ hf hw
 clear hf hw ww aa
 rw[DW] at E
 refine AA (AG (.inl O) (A0 O O O (AD (kp [113,111,110,0,112] O) (AA (AW O (λa0=>?_) (λa0=>?_))))))
 ·have E:=BU a0 E
  refine AT (AA (A6 (AA (Am (AJ 3 (AB O O ?_))))))
  have ec:=bg.mono' az
  obtain⟨t,cj,E⟩:=bd E
  refine A8 O O ec G4 cj O λgj ed=>Bw A3 aj.1 O ed F8 (λe=>by cases e) O λgk ee=>AE (Cg M0 O aj λgl gm ck bh=>AJ 1 (AF O O (AE ?_)))
  have ef:=ee.mono bh
  obtain⟨a1,a2,a3,rfl,eg,eh,ei,ej,bi,bj,bk,ek,el,em,en,eo,ep,eq,er,es,et,eu⟩:=Bh.ex ef
  refine Ge (vs:=[.string t.Name,.int .i64 t.Kind,.int .i64 t.From,.int .i64 t.To,a1,a2,a3,.int .i64 t.Positions,.int .i64 t.Speed,.int .i64 t.Leak,.int .i64 t.Crest,.int .i64 t.Num,.int .i64 t.Den,.int .i64 t.Prime,.int .i64 t.Break,.int .i64 t.BackNum,.int .i64 t.BackDen,.int .i64 t.Delay]) (cs':=[.string t.Name,.int .i64 t.Kind,.int .i64 t.From,.int .i64 t.To,a1,a2,a3,.int .i64 t.Positions,.int .i64 t.Speed,.int .i64 t.Leak,.int .i64 t.Crest,.int .i64 t.Num,.int .i64 t.Den,.int .i64 t.Prime,.int .i64 t.Break,.int .i64 t.BackNum,.int .i64 t.BackDen,.int .i64 t.Delay]) O O O (AH O (AH O (AH O (AH O (AH bi.one (AH bj.one (AH bk.one (AH O (AH O (AH O (AH O (AH O (AH O (AH O (AH O (AH O (AH O (AH O D2)))))))))))))))))) F8 O ck .head O O λgn Y am=>AX (kp [6,7,111,110,0,112] O) (JM 17 mo (by kernel_rfl) O Y (AB O O (CI O O (AL O CV O (AL O Fb O (AS BZ Y O (mt mh) O IQ O (AB O O (Cj (vs:=[.string t.Name,.int .i64 t.Kind,.int .i64 t.From,.int .i64 t.To,a1,a2,a3,.int .i64 t.Positions,.int .i64 t.Speed,.int .i64 t.Leak,.int .i64 t.Crest,.int .i64 t.Num,.int .i64 t.Den,.int .i64 t.Prime,.int .i64 t.Break,.int .i64 t.BackNum,.int .i64 t.BackDen,.int .i64 t.Delay]) BZ Y O mh O O F8 O O (AB O O (CI O O (AL O CV O (AL O Fb O (AS BZ Y O (mt mh) O IQ O (AB O O ?_))))))))))))))
  obtain⟨gp,cl,E⟩:=bd E
  refine A5 Y (mt (mt (mt (mt mh)))) O O IL cl O λgq cm=>?_
  obtain⟨gr,cn,E⟩:=bd E
  have ev:=Y.epAt (mt (mt (mt (mt mh)))) cn El.id cm
  refine Bw BZ (λ_ x=>x) O ev Eo (λe=>by cases e) O λgs ew=>?_
  have ey:=bi.mono' am
  have ez:=bj.mono' am
  have e0:=bk.mono' am
  obtain⟨bl,co,E⟩:=bd E
  refine CM O O O Xq O (λh' o=>Mi (St.all h') (Bh.mk (x:=t) eg eh ei ej (ey.mono' (o.all Y.1)) (ez.mono' (o.all Y.1)) (e0.mono' (o.all Y.1)) ek el em en eo ep eq er es et eu) (ew.mono (o.all Y.1)) co) λe1=>?_
  obtain⟨e2,e3⟩:=e1
  obtain⟨gt,cp,E⟩:=bd E
  refine A5 Y (mt (mt (mt (mt mh)))) O O IL cp O λgu cq=>IJ λgv cr e4=>?_
  obtain⟨e5,cs,E⟩:=bd E
  refine Ef (r:=A4) (l:=ae) (i:=ac) (x:=e5) O O (A4.mk (x:=bl) ⟨e2,e3⟩) cq cs LG.id Eo (λe=>by cases e) cr (.tail (.tail (.tail (.tail .head)))) λgw ct e6=>AX (kp [111,110,0,112] O) (BJ (AG (.inl O) (Ap O O O (AB O O (AD (kp [112,111,110,0] O) (WF.nil (λaa ww hf hw=>?_)))))))
  have cu:=ct.sel [1,1,1,1,1,1,1,1,1] 1 O
  have cv:=az.trans (bh.trans (am.trans (e4.trans e6)))
  exact⟨(BD (ac+1)),(upd ae ac bl),_,_,hf.sub (kp [111,110,0,112] O),hw,cu,cv,(BG _),E⟩
 have E:=BV a0 E
 refine KI O (WF.nil (λaa ww hf hw=>?_))
 cases E
 have cw:=ar.trans (bf.trans az)
 exact Jn hf O hw Jm O cw ⟨_,O,aj⟩
theorem NB (hs:St S L h) {b:Value}{g:(List Int)}(c:Sl S h AN.int b g) {a:Int}(j:AI a) {r:Int}(E:JL N g a=some r):
 CG Tryz.prog 81 #[b,.int .i64 a] S h (λv S' h'=>v= .int .i64 r∧AI r∧St S' (L) h'):=by
 refine BC (l:=[b,.int .i64 a]) 24 Tryz.func81 O Tryz.ntmps81 O λB=>?_
 rw[JL] at E
 refine AA (AG (.inl O) (AF O O (AD (kp [0,1] O) (AA (AA (AG (.inl O) (AB O O (A0 O O O (AB O O (AV 5 12 (.bool ((decide (a<0))||(decide ((↑g.length:Int)≤a)))) ?_ ?_))))))))))
 ·cases x:(decide (a<0))
  ·exact AC O O O (AB O O (AC O O O (AB O O (AC O O O (Ag O c BP O λy=>AC O O O (Hr O O O (AO O O O (AU O))))))))
  exact Aa O O
 refine AB O O ?_
 obtain⟨s,d,E⟩:=bd E
 refine AV 6 19 (.bool s) ?_ ?_
 ·cases q:((decide (a<0))||(decide ((↑g.length:Int)≤a)))
  ·have d:=BV q d
   refine AC O O O (AB O O (AC O O O (AB O O (AC O O O ?_))))
   obtain⟨z,k,d⟩:=bd d
   refine A8 O O c BP k O λA t=>AC O O O (Af A3 hs.1 O t Ae O λC=>AC O O O (A0 O O O (AO O O O ?_)))
   cases d
   exact AU O
  have d:=BU q d
  cases d
  exact Aa O O
 refine AD (kp [19,0,1] O) (AW O (λm=>?_) (λm=>?_))
 ·have E:=BU m E
  refine AA (AG (.inl O) (AF O O (AD (kp [4] O) (Ab (λaa ww hf hw=>?_)))))
  cases E
  exact Dp hf hw O O (B8.refl S h) ⟨O,(iq (n:=0) O),hs⟩
 have E:=BV m E
 refine AT (AA (AG (.inl O) (AB O O (AB O O ?_))))
 obtain⟨u,i,E⟩:=bd E
 refine A8 O O c BP i O λw o=>Af A3 hs.1 O o Ae O λp=>AF O O (AD (kp [4] O) (Ab (λaa ww hf hw=>?_)))
 cases E
 exact Dp hf hw O O (B8.refl S h) ⟨O,p,hs⟩
theorem PV (hs:St S L h) {k:Value}{d:(List Int)}(j:Sl S h AN.int k d) {c:Int}(s:AI c) {b:Int}(F:AI b) {g:Int}(u:AI g) {r:(List Int)}(E:Je N d c b g=some r):
 CG Tryz.prog 58 #[k,.int .i64 c,.int .i64 b,.int .i64 g] S h (λv S' h'=>St S' (OS AN.int 3 v r::L) h'):=by
 refine BC (l:=[k,.int .i64 c,.int .i64 b,.int .i64 g]) 56 Tryz.func58 O Tryz.ntmps58 O λB=>?_
 rw[Je] at E
 refine AA (AG (.inl O) (AF O O (AD (kp [0,1,2,3] O) (AA (Am (AJ 2 (AB O O (Ag O j BP O λb1=>AE ?_))))))))
 obtain⟨al,E⟩:=Ly E
 refine Iq (r:=AN.int) (zx:=0) E4 O ⟨O,by unfold AI;omega⟩ O O al O O hs λv3 h4 am e6=>AJ 1 (AF O O (AE (AX (kp [9,0,1,2,3] O) (AA (Am (AJ 2 (AB O O (AB O O (AE ?_)))))))))
 have k7:=j.mono' e6
 refine Qv (r:=AN.int) (l:=(List.replicate ((↑d.length:Int):Int).toNat (0:Int))) (xs:=d) O O BP (Sl.src k7) O am .head λh8 G z=>AX (kp [9,0,1,2,3] O) (AA (Bn (.inl O) G (AB O O (AB O O (AB O O ?_)))))
 have an:=j.mono' (e6.trans z)
 obtain⟨m,H,E⟩:=bd E
 refine CM O O O Xj O (λh' o=>NB (St.all h') (an.mono' (o.all G.1)) s H) λao=>?_
 have ap:=ao
 refine Qs O O O (AF O O (BK (kp [10,9,0,1,2] O) λI n J=>AA (AA (AG (.inl O) (AB O O (CE O O O (AB O O (AV 3 27 (.bool ((decide (0<(min g m)))&&(decide (0≤b)))) ?_ ?_))))))))
 ·cases a4:(decide (0<(min g m)))
  ·exact Aa O O
  exact AC O O O (AB O O (AC O O O (Hr O O O (AO O O O (AU O)))))
 refine AB O O (AV 5 33 (.bool (((decide (0<(min g m)))&&(decide (0≤b)))&&(decide (b<(↑d.length:Int))))) ?_ ?_)
 ·cases a5:((decide (0<(min g m)))&&(decide (0≤b)))
  ·exact Aa O O
  refine AC O O O (AB O O (AC O O O (AB O O (AC O O O ?_))))
  have K:=e6.trans (z.trans J)
  have aq:=j.mono' K
  exact Ag O aq BP O λa6=>AC O O O (A0 O O O (AO O O O (AU O)))
 refine AB O O (AV 4 38 (.bool ((((decide (0<(min g m)))&&(decide (0≤b)))&&(decide (b<(↑d.length:Int))))&&(decide (c≠b)))) ?_ ?_)
 ·cases a7:(((decide (0<(min g m)))&&(decide (0≤b)))&&(decide (b<(↑d.length:Int))))
  ·exact Aa O O
  exact AC O O O (AB O O (AC O O O (AB O O (AC O O O (CH O O O (AO O O O (AU O)))))))
 refine AD (kp [38,10,9,1,2] O) (GW (λa w=>∃(A:List Int),IV B S I (56,[]) a w [(9,v3)] (OS AN.int 3 v3 A::L) λ_ _=>I3 N A=some r) ?_ ?_)
 ·refine AW O (λC=>?_) (λC=>?_)
  ·have E:=BU C E
   refine AA (Am (AJ 7 (AB O O (AB O O ?_))))
   obtain⟨a8,M,E⟩:=bd E
   refine A5 n mh O O BP M O λa9 Q=>?_
   obtain⟨D,U,E⟩:=bd E
   have ar:=n.epAt mh U El.id Q
   refine Af A3 (λ_ x=>x) O ar Ae O λba=>AB O O (Dg O O O ?_)
   obtain⟨bb,V,E⟩:=bd E
   refine A5 n mh O O BP V O λbc W=>AE ?_
   obtain⟨au,X,E⟩:=bd E
   refine Ef (r:=AN.int) (l:=(Lw (List.replicate ((↑d.length:Int):Int).toNat (0:Int)) d)) (i:=c) (x:=au) O O (⟨_,O,O,(BG _)⟩:Rd _ _ AN.int _ (BD (D-(min g m)))) W X LG.id Ae (λ_=>rfl) n .head λbe t av=>AX (kp [10,9,2] O) (Am (AJ 7 (AB O O (AB O O (AB O O (AB O O ?_))))))
   obtain⟨bf,Y,E⟩:=bd E
   refine A5 t mh O O BP Y O λbg Z=>?_
   obtain⟨bh,ab,E⟩:=bd E
   have aw:=t.epAt mh ab El.id Z
   refine Af A3 (λ_ x=>x) O aw Ae O λax=>AB O O (AE ?_)
   obtain⟨ac,ad,E⟩:=bd E
   refine Bb O O O P1 O t (Hp (St.all _) ax (Ks u ap) ad) λbi bj bk y ay bl p=>?_
   obtain⟨rfl,az,a3⟩:=p
   refine AJ 1 ?_
   obtain⟨bm,ae,E⟩:=bd E
   refine A5 y mh O O BP ae O λbn af=>AE ?_
   obtain⟨a0,ag,E⟩:=bd E
   refine Ef (r:=AN.int) (l:=(upd (Lw (List.replicate ((↑d.length:Int):Int).toNat (0:Int)) d) c (BD (D-(min g m))))) (i:=b) (x:=a0) O O (⟨_,O,O,az⟩:Rd _ _ AN.int _ ac) af ag LG.id Ae (λ_=>rfl) y .head λbo ah a1=>AX (kp [9] O) (WF.nil (λaa ww hf hw=>?_))
   have ai:=av.trans (ay.trans a1)
   exact⟨(upd (upd (Lw (List.replicate ((↑d.length:Int):Int).toNat (0:Int)) d) c (BD (D-(min g m)))) b ac),_,_,hf.sub (kp [9] O),hw,ah,ai,E⟩
  have E:=BV C E
  refine AT (WF.nil (λaa ww hf hw=>?_))
  exact⟨(Lw (List.replicate ((↑d.length:Int):Int).toNat (0:Int)) d),_,_,hf.sub (kp [9] O),hw,n,(B8.refl S I),E⟩
 rintro aa ww ⟨A,bp,bq,hf,hw,aj,a2,E⟩
 refine Ad ?_ hf hw
 clear hf hw ww aa
 rw[I3] at E
 refine AA (AG (.inl O) (AB O O (AF O O (AD (kp [8] O) (Ab (λaa ww hf hw=>?_))))))
 cases E
 have ak:=e6.trans (z.trans (J.trans a2))
 exact Dp hf hw O O ak aj
theorem MW {c:Nat}{p0_w:Ai}{M:Value}{Q:Value}{U:Value}{V:Value}{W:Value}{Y:Value}{Z:Value}{ab:Value}{G:Value}{H:Value}{I:Value}{J:Value}{t:Value}{g:Value}{u:Value}{K:Value}{x:Value}{y:Value}{z:Value}{A:Value}{C:Value}{D:Value}(hs:St S (Bx c 84 [.string p0_w.b.Name,M,.int .i64 p0_w.b.Cells,Q,U,V,W,Y,Z,ab,.int .i64 p0_w.b.Err,G,H,I,J,t,.int .i64 p0_w.s.Hour,g,u,K,x,y,z,A,C,D]::OO AN.int 3 29 g p0_w.s.Own::OS AN.int 3 u p0_w.s.Rem::OS A4 69 x p0_w.s.Gates::OS AN.int 3 y p0_w.s.In::OS AN.int 3 z p0_w.s.Out::OS BT 50 A p0_w.moves::OS AN.int 3 C p0_w.peaks::OS An 60 D p0_w.sent::L) h) (b9:p0_w.b.Name.size≤maxLen) (ah:Sl S h AN.str M p0_w.b.Owners) (ca:AI p0_w.b.Cells) (ai:Sl S h Br Q p0_w.b.Places) (cb:Sl S h Bh U p0_w.b.Links) (cc:Sl S h F6 V p0_w.b.Towns) (cd:Sl S h D4 W p0_w.b.Gauges) (ce:Sl S h Fo Y p0_w.b.Roads) (cf:Sl S h Cw Z p0_w.b.Shelters) (cg:Sl S h AN.int ab p0_w.b.Room) (bc:AI p0_w.b.Err) (be:Sl S h AN.int G p0_w.in_.Rain) (bf:Sl S h Ek H p0_w.in_.Faults) (bg:Sl S h Hg I p0_w.in_.Cmds) (bh:Sl S h FJ J p0_w.in_.Takes) (af:Sl S h F7 t p0_w.in_.Swaps) (bi:AI p0_w.s.Hour) (bj:Sl S h An K p0_w.s.Queue) {r:(List (List Int))}(E:Gs N p0_w=some r):
 CG Tryz.prog 31 #[.pointer (some ⟨c,0,none⟩)] S h (λv S' h'=>∃w_0_17:Value,v= .tuple #[]∧St S' (Bx c 84 [.string p0_w.b.Name,M,.int .i64 p0_w.b.Cells,Q,U,V,W,Y,Z,ab,.int .i64 p0_w.b.Err,G,H,I,J,t,.int .i64 p0_w.s.Hour,w_0_17,u,K,x,y,z,A,C,D]::OO AN.int 3 29 w_0_17 r::OS AN.int 3 u p0_w.s.Rem::OS A4 69 x p0_w.s.Gates::OS AN.int 3 y p0_w.s.In::OS AN.int 3 z p0_w.s.Out::OS BT 50 A p0_w.moves::OS AN.int 3 C p0_w.peaks::OS An 60 D p0_w.sent::L) h'):=by
 refine BC (l:=[.pointer (some ⟨c,0,none⟩)]) 70 Tryz.func31 O Tryz.ntmps31 O λB=>?_
 rw[Gs] at E
 refine AA (AG (.inl O) (AB O O (CI O O (AL O MN O (AL O TJ O (AS A3 hs O mh O XJ O (Ag O af UY O λb1=>AB O O (AD (kp [10,9,8,0] O) (A6 (Ay (λn0=>λa w=>∃(i5:Int) (l7:List (List Int)),IV B S h (70,[]) a w [(9,.int .i64 (↑p0_w.in_.Swaps.length:Int)),(8,t),(0,.pointer (some ⟨c,0,none⟩)),(10,.int .i64 i5)] (Bx c 84 [.string p0_w.b.Name,M,.int .i64 p0_w.b.Cells,Q,U,V,W,Y,Z,ab,.int .i64 p0_w.b.Err,G,H,I,J,t,.int .i64 p0_w.s.Hour,g,u,K,x,y,z,A,C,D]::OO AN.int 3 29 g l7::OS AN.int 3 u p0_w.s.Rem::OS A4 69 x p0_w.s.Gates::OS AN.int 3 y p0_w.s.In::OS AN.int 3 z p0_w.s.Out::OS BT 50 A p0_w.moves::OS AN.int 3 C p0_w.peaks::OS An 60 D p0_w.sent::L) λ_ _=>AI i5∧Cb N p0_w n0 i5 l7=some r) N ?_ ?_ ?_))))))))))
 ·intro aa ww hf hw
  exact⟨0,p0_w.s.Own,_,_,hf.sub (kp [9,8,0,10] O),hw,hs,(B8.refl S h),(iq (n:=0) O),E⟩
 ·rintro aa ww ⟨_,_,_,_,_,_,_,_,_,E⟩
  rw[Cb] at E;cases E
 rintro n0 aa ww ⟨i5,l7,S8,h9,hf,hw,an,aj,r6,E⟩
 refine Ad ?_ hf hw
 clear hf hw ww aa
 rw[Cb] at E
 refine AA (AG (.inl O) (A0 O O O (AD (kp [11,9,8,0,10] O) (AA (AW O (λbk=>?_) (λbk=>?_))))))
 ·have E:=BU bk E
  refine AT (AA (Aj (λa w=>∃(ba:List (List Int)),IV B S8 h9 (70,[]) a w [(9,.int .i64 (↑p0_w.in_.Swaps.length:Int)),(8,t),(0,.pointer (some ⟨c,0,none⟩)),(10,.int .i64 i5)] (Bx c 84 [.string p0_w.b.Name,M,.int .i64 p0_w.b.Cells,Q,U,V,W,Y,Z,ab,.int .i64 p0_w.b.Err,G,H,I,J,t,.int .i64 p0_w.s.Hour,g,u,K,x,y,z,A,C,D]::OO AN.int 3 29 g ba::OS AN.int 3 u p0_w.s.Rem::OS A4 69 x p0_w.s.Gates::OS AN.int 3 y p0_w.s.In::OS AN.int 3 z p0_w.s.Out::OS BT 50 A p0_w.moves::OS AN.int 3 C p0_w.peaks::OS An 60 D p0_w.sent::L) λ_ _=>Fg N i5 (Cb N p0_w n0) ba=some r) ?_ ?_))
  ·refine AA (Am (AJ 2 ?_))
   have da:=af.mono' aj
   obtain⟨ac,ch,E⟩:=bd E
   refine A8 O O da UY ch O λfc db=>Bw A3 an.1 O db UO (λe=>by cases e) O λfd dc=>AE (Cg X4 O an λak fe ci am=>?_)
   have dd:=dc.mono am
   obtain⟨rfl,⟨bl,cj,ck,de⟩⟩:=F7.ex dd
   refine DD (vs:=[.int .i64 ac.Place,.int .i64 ac.From,.int .i64 ac.To,.int .i64 ac.Litres]) O O O O UO O ci .head O λff ag ao=>AX (kp [3,9,8,0,10] O) (AA (Bn (.inr ⟨mo,by kernel_rfl⟩) ag (AL O O5 O (AS BZ ag O mh O Ae O (AB O O (CI O O (AL O Fq O (AL O DK O (AS BZ ag O (mt mh) O F9 O ?_)))))))))
   have cl:=aj.trans (am.trans ao)
   have df:=ai.mono' cl
   refine Ag O df FA O λdg=>?_
   obtain⟨dh,cm,E⟩:=bd E
   refine Aw O O O N5 O (λh' o=>Fe (St.all h') bl (JE dg) cm) (AB O O ?_)
   obtain⟨cn,ad,E⟩:=bd E
   refine AV 10 33 (.bool cn) ?_ ?_
   ·cases co:dh
    ·have ad:=BV co ad
     cases ad
     exact Aa O O
    have ad:=BU co ad
    refine AC O O O (AL O Rj O (AC O O O (AS BZ ag O mh O Ae O (AC O O O (AB O O (AC O O O (CI O O (AC O O O (AL O Fq O (AC O O O (AL O HS O (AC O O O (AS BZ ag O (mt mh) O J6 O (AC O O O ?_))))))))))))))
    have cp:=aj.trans (am.trans ao)
    have di:=ah.mono' cp
    refine Ag O di Js O λdj=>AC O O O ?_
    obtain⟨fg,cq,ad⟩:=bd ad
    refine Aw O O O N5 O (λh' o=>Fe (St.all h') cj (JE dj) cq) (AO O O O ?_)
    cases ad
    exact AU O
   refine AB O O ?_
   obtain⟨dk,ae,E⟩:=bd E
   refine AV 10 44 (.bool dk) ?_ ?_
   ·cases cr:cn
    ·have ae:=BV cr ae
     cases ae
     exact Aa O O
    have ae:=BU cr ae
    refine AC O O O (AL O Ri O (AC O O O (AS BZ ag O mh O Ae O (AC O O O (AB O O (AC O O O (CI O O (AC O O O (AL O Fq O (AC O O O (AL O HS O (AC O O O (AS BZ ag O (mt mh) O J6 O (AC O O O ?_))))))))))))))
    have cs:=aj.trans (am.trans ao)
    have dl:=ah.mono' cs
    refine Ag O dl Js O λdm=>AC O O O ?_
    obtain⟨fh,ct,ae⟩:=bd ae
    refine Aw O O O N5 O (λh' o=>Fe (St.all h') ck (JE dm) ct) (AO O O O ?_)
    cases ae
    exact AU O
   refine BK (kp [44,3,9,8,0,10] O) λdn d cu=>AW O (λbm=>?_) (λbm=>?_)
   ·have E:=BU bm E
    obtain⟨fi,cv,E⟩:=bd E
    obtain⟨dp,cw,E⟩:=bd E
    obtain⟨cx,cy,E⟩:=bd E
    obtain⟨fj,cz,E⟩:=bd E
    refine Qn (m:=[(3,.pointer (some ⟨ak,0,none⟩)),(9,.int .i64 (↑p0_w.in_.Swaps.length:Int)),(8,t),(0,.pointer (some ⟨c,0,none⟩)),(10,.int .i64 i5)]) [24] [] [] (by kernel_rfl) (λgv X F i v hh=>match i with|0=>v= .pointer (some ⟨c,0,none⟩)|1=>v= .pointer (some ⟨c,0,none⟩)|2=>v= .pointer (some ⟨c,16,none⟩)|3=>v= .pointer (some ⟨c,17,none⟩)|4=>v=g|5=>v= .pointer (some ⟨ak,0,none⟩)|6=>v= .int .i64 ac.Place∧AI ac.Place|7=>v= .pointer (some ⟨c,0,none⟩)|8=>v= .pointer (some ⟨c,0,none⟩)|9=>v= .pointer (some ⟨c,16,none⟩)|10=>v= .pointer (some ⟨c,17,none⟩)|11=>v=g|12=>v= .pointer (some ⟨ak,0,none⟩)|13=>v= .int .i64 ac.Place∧AI ac.Place|14=>EP g (ac.Place.toNat*((AN.sl AN.int)).sz+0) v|15=>Sl (λb=>b<hh.size) hh AN.int v dp|16=>v= .pointer (some ⟨ak,1,none⟩)|17=>v= .int .i64 ac.From∧AI ac.From|18=>v= .pointer (some ⟨ak,2,none⟩)|19=>v= .int .i64 ac.To∧AI ac.To|20=>v= .pointer (some ⟨ak,3,none⟩)|21=>v= .int .i64 ac.Litres∧AI ac.Litres|22=>OW S8 dn X F [OS AN.int 3 v cx] hh|23=>EP g (ac.Place.toNat*((AN.sl AN.int)).sz+0) v|_=>False) [[],[(0,45)],[(1,46)],[(2,47)],[(3,48)],[],[(5,50)],[],[(7,52)],[(8,53)],[(9,54)],[(10,55)],[],[(12,57)],[(11,56),(13,58)],[(14,59)],[],[(16,61)],[],[(18,63)],[],[(20,65)],[(15,60),(17,62),(19,64),(21,66)],[(4,49),(6,51)],[]] [(22,67),(23,68)] mo (by kernel_rfl) [3,9,8,0,10] O (by kernel_rfl) (by kernel_rfl) (by kernel_rfl) O (kp [3,9,8,0,10] O) (λgv i v h1 h2 X X' F o1 o2 hF u1 u2 hr=>?_) (λgv gv' X F i v h1 hz hr=>?_) ?_ ?_ ?_
    ·match i,hr with
      |0,hr=>exact hr
      |1,hr=>exact hr
      |2,hr=>exact hr
      |3,hr=>exact hr
      |4,hr=>exact hr
      |5,hr=>exact hr
      |6,hr=>exact hr
      |7,hr=>exact hr
      |8,hr=>exact hr
      |9,hr=>exact hr
      |10,hr=>exact hr
      |11,hr=>exact hr
      |12,hr=>exact hr
      |13,hr=>exact hr
      |14,hr=>exact hr
      |15,hr=>exact Sl.mono hr (λb hb=>Nat.lt_of_lt_of_le hb o2.siz) (λb hb=>o2.same b hb)
      |16,hr=>exact hr
      |17,hr=>exact hr
      |18,hr=>exact hr
      |19,hr=>exact hr
      |20,hr=>exact hr
      |21,hr=>exact hr
      |22,hr=>exact OW.mono d.1 o1 o2 hF u1 u2 hr
      |23,hr=>exact hr
      |_+24,hr=>exact hr.elim
    ·match i,hr with
      |0,hr=>exact hr
      |1,hr=>exact hr
      |2,hr=>exact hr
      |3,hr=>exact hr
      |4,hr=>exact hr
      |5,hr=>exact hr
      |6,hr=>exact hr
      |7,hr=>exact hr
      |8,hr=>exact hr
      |9,hr=>exact hr
      |10,hr=>exact hr
      |11,hr=>exact hr
      |12,hr=>exact hr
      |13,hr=>exact hr
      |14,hr=>exact hr
      |15,hr=>exact hr
      |16,hr=>exact hr
      |17,hr=>exact hr
      |18,hr=>exact hr
      |19,hr=>exact hr
      |20,hr=>exact hr
      |21,hr=>exact hr
      |22,hr=>exact hr
      |23,hr=>exact hr
      |_+24,hr=>exact hr.elim
    ·exact trivial
    ·refine B5.cons O O ?_ ?_
     ·intro gv X mq hh o hX
      have hsN:=o.st d
      exact AJ 1 (AB O O (AE (AK (BA.refl _) O)))
     refine B5.cons O O ?_ ?_
     ·intro gv X mq hh o hX
      have hsN:=o.st d
      intro fk bn
      obtain⟨ea,_,_,bn⟩:=bn
      cases bn
      exact AJ 1 (CI O O (AE (AK (BA.refl _) O)))
     refine B5.cons O O ?_ ?_
     ·intro gv X mq hh o hX
      have hsN:=o.st d
      intro fl bo
      obtain⟨eb,_,_,bo⟩:=bo
      cases bo
      exact AJ 1 (AL O CV O (AE (AK (BA.refl _) O)))
     refine B5.cons O O ?_ ?_
     ·intro gv X mq hh o hX
      have hsN:=o.st d
      intro fm bp
      obtain⟨ec,_,_,bp⟩:=bp
      cases bp
      exact AJ 1 (AL O D3 O (AE (AK (BA.refl _) O)))
     refine B5.cons O O ?_ ?_
     ·intro gv X mq hh o hX
      have hsN:=o.st d
      intro fn bq
      obtain⟨ed,_,_,bq⟩:=bq
      cases bq
      exact AJ 1 (AS A3 hsN O (mt mh) O G3 O (AE (AK (BA.refl _) O)))
     refine B5.cons O O ?_ ?_
     ·intro gv X mq hh o hX
      have hsN:=o.st d
      exact AJ 1 (AL O O5 O (AE (AK (BA.refl _) O)))
     refine B5.cons O O ?_ ?_
     ·intro gv X mq hh o hX
      have hsN:=o.st d
      intro fo br
      obtain⟨ee,_,_,br⟩:=br
      cases br
      exact AJ 1 (AS A3 hsN O mh O Ae O (AE (AK (BA.refl _) ⟨O,bl⟩)))
     refine B5.cons O O ?_ ?_
     ·intro gv X mq hh o hX
      have hsN:=o.st d
      exact AJ 1 (AB O O (AE (AK (BA.refl _) O)))
     refine B5.cons O O ?_ ?_
     ·intro gv X mq hh o hX
      have hsN:=o.st d
      intro fp bs
      obtain⟨ef,_,_,bs⟩:=bs
      cases bs
      exact AJ 1 (CI O O (AE (AK (BA.refl _) O)))
     refine B5.cons O O ?_ ?_
     ·intro gv X mq hh o hX
      have hsN:=o.st d
      intro fq bt
      obtain⟨eg,_,_,bt⟩:=bt
      cases bt
      exact AJ 1 (AL O CV O (AE (AK (BA.refl _) O)))
     refine B5.cons O O ?_ ?_
     ·intro gv X mq hh o hX
      have hsN:=o.st d
      intro fr bu
      obtain⟨eh,_,_,bu⟩:=bu
      cases bu
      exact AJ 1 (AL O D3 O (AE (AK (BA.refl _) O)))
     refine B5.cons O O ?_ ?_
     ·intro gv X mq hh o hX
      have hsN:=o.st d
      intro fs ap
      obtain⟨dq,_,_,ap⟩:=ap
      cases ap
      exact AJ 1 (AS A3 hsN O (mt mh) O G3 O (AE (AK (BA.refl _) O)))
     refine B5.cons O O ?_ ?_
     ·intro gv X mq hh o hX
      have hsN:=o.st d
      exact AJ 1 (AL O O5 O (AE (AK (BA.refl _) O)))
     refine B5.cons O O ?_ ?_
     ·intro gv X mq hh o hX
      have hsN:=o.st d
      intro ei aq
      obtain⟨dr,_,_,aq⟩:=aq
      cases aq
      exact AJ 1 (AS A3 hsN O mh O Ae O (AE (AK (BA.refl _) ⟨O,bl⟩)))
     refine B5.cons O O ?_ ?_
     ·intro gv X mq hh o hX
      have hsN:=o.st d
      intro ej ar ek au
      obtain⟨ds,_,_,ar⟩:=ar
      cases ar
      obtain⟨dt,_,_,au⟩:=au
      obtain⟨rfl,el⟩:=au
      exact AJ 1 (NX (r:=AN.int) hsN (mt (mt mh)) O O E8 cv O λem bv=>AE (AK (BA.refl _) bv))
     refine B5.cons O O ?_ ?_
     ·intro gv X mq hh o hX
      have hsN:=o.st d
      intro en av
      obtain⟨du,_,_,av⟩:=av
      exact AJ 1 (Qu (r:=AN.int) A3 hsN (mt (mt mh)) O cw av BY O λeo dv c0=>AE (AK (BA.refl _) c0))
     refine B5.cons O O ?_ ?_
     ·intro gv X mq hh o hX
      have hsN:=o.st d
      exact AJ 1 (AL O Rj O (AE (AK (BA.refl _) O)))
     refine B5.cons O O ?_ ?_
     ·intro gv X mq hh o hX
      have hsN:=o.st d
      intro ep aw
      obtain⟨dw,_,_,aw⟩:=aw
      cases aw
      exact AJ 1 (AS A3 hsN O mh O Ae O (AE (AK (BA.refl _) ⟨O,cj⟩)))
     refine B5.cons O O ?_ ?_
     ·intro gv X mq hh o hX
      have hsN:=o.st d
      exact AJ 1 (AL O Ri O (AE (AK (BA.refl _) O)))
     refine B5.cons O O ?_ ?_
     ·intro gv X mq hh o hX
      have hsN:=o.st d
      intro eq ax
      obtain⟨dx,_,_,ax⟩:=ax
      cases ax
      exact AJ 1 (AS A3 hsN O mh O Ae O (AE (AK (BA.refl _) ⟨O,ck⟩)))
     refine B5.cons O O ?_ ?_
     ·intro gv X mq hh o hX
      have hsN:=o.st d
      exact AJ 1 (AL O Vb O (AE (AK (BA.refl _) O)))
     refine B5.cons O O ?_ ?_
     ·intro gv X mq hh o hX
      have hsN:=o.st d
      intro er ay
      obtain⟨dy,_,_,ay⟩:=ay
      cases ay
      exact AJ 1 (AS A3 hsN O mh O Ae O (AE (AK (BA.refl _) ⟨O,de⟩)))
     refine L9 O O ?_ ?_
     ·intro gv X mq hh o hX
      have hsN:=SX.fz (X:=X) d o
      intro es az et a0 eu a1 ev a2
      obtain⟨dz,_,_,az⟩:=az
      obtain⟨d0,_,_,a0⟩:=a0
      obtain⟨rfl,c1⟩:=a0
      obtain⟨d1,_,_,a1⟩:=a1
      obtain⟨rfl,c2⟩:=a1
      obtain⟨d2,_,_,a2⟩:=a2
      obtain⟨rfl,c3⟩:=a2
      refine Bb O O O aY O hsN (PV (St.all _) az c1 c2 c3 cy) λew ey ez d3 c4 c5 p=>?_
      have bw:=p
      have a3:=hsN.join c5 bw ⟨OS.flat (λ{_ _ _ _ _ _} k=>k),trivial⟩
      simp only[List.cons_append,List.nil_append] at a3
      have hsG:=a3.pick (.tail .head)
      obtain⟨F152,hF153,c6,e0,c7⟩:=OW.done d.1 o hX c4 hsG
      exact AK c6 ⟨F152,hF153,c7⟩
     refine B5.cons O O ?_ ?_
     ·intro gv X mq hh o hX
      have hsN:=o.st d
      intro e1 a4 e2 a5
      obtain⟨d4,_,_,a4⟩:=a4
      cases a4
      obtain⟨d5,_,_,a5⟩:=a5
      obtain⟨rfl,e3⟩:=a5
      exact AJ 1 (NX (r:=AN.int) hsN (mt (mt mh)) O O E8 cz O λe4 bx=>AE (AK (BA.refl _) bx))
     exact B5.skip (by kernel_rfl) (trivial)
    intro e5 d6 d7 bb a6 bz e6 a7 e7 a8
    obtain⟨d8,a7⟩:=a7
    obtain⟨d9,a8⟩:=a8
    have a9:=(Sa.cons (Sa.nil d bb a6) bz (j:=22) O a7).st
    simp only[List.cons_append,List.nil_append] at a9
    obtain⟨e8,b0,E⟩:=bd E
    have b2:=a9.sel [0,2,0,0,0,0,0,0,0,0,0] 0 O
    refine TZ (r:=AN.int) (i:=ac.Place) O O a8 b0 BY b2 λe9 b3 c8=>AX (kp [9,8,0,10] O) (WF.nil (λaa ww hf hw=>?_))
    have b4:=b3.sel [2,0,1,1,1,1,1,1,1] 1 O
    have b5:=am.trans (ao.trans (cu.trans ((SX.ext d.1 bb (WG a6)).trans c8)))
    exact⟨(upd l7 ac.Place cx),_,_,hf.sub (kp [9,8,0,10] O),hw,b4,b5,E⟩
   have E:=BV bm E
   refine AT (WF.nil (λaa ww hf hw=>?_))
   have b6:=d.sel [1,1,1,1,1,1,1,1,1] 1 O
   have b7:=am.trans (ao.trans cu)
   exact⟨l7,_,_,hf.sub (kp [9,8,0,10] O),hw,b6,b7,E⟩
  rintro aa ww ⟨ba,fa,fb,hf,hw,b8,c9,E⟩
  refine Ad ?_ hf hw
  clear hf hw ww aa
  rw[Fg] at E
  refine AG (.inl O) (Ap O O O (AB O O (AD (kp [10,9,8,0] O) (WF.nil (λaa ww hf hw=>?_)))))
  exact⟨(BD (i5+1)),ba,_,_,hf.sub (kp [9,8,0,10] O),hw,b8,(aj.trans c9),(BG _),E⟩
 have E:=BV bk E
 refine KI O (WF.nil (λaa ww hf hw=>?_))
 cases E
 exact Jn hf O hw Jm O aj ⟨_,O,an⟩
end Go.Proofs.YtblcgjadhemlbaaGreat
