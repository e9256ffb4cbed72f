import Derived.Test.YtblcgjadhemlbaaGreatRWalk15
namespace Go.Proofs.YtblcgjadhemlbaaGreat
open Go.RowKit
set_option linter.unusedVariables false
set_option linter.unusedSimpArgs false
set_option maxRecDepth 10000
set_option maxHeartbeats 2000000
variable {N:Nat}{S:Nat→Prop}{L:List HP}{h:Aw}
theorem MC (hs:St S L h) {b:Value}{i:(List Int)}(k:Sl S h AM.int b i) {c:Value}{m:(List Int)}(o:Sl S h AM.int c m) {r:(List Int)}(E:GV N i m=some r):
 CL Tryz.prog 17 #[b,c] S h (λv S' h'=>St S' (OS AM.int 3 v r::L) h'):=by
 refine BG (l:=[b,c]) 32 Tryz.func17 O Tryz.ntmps17 O λB=>?_
 rw[GV] at E
 refine AI (AK O (kp [0,1] O) (AI (AK O (kp [5,0,1] O) (AC (AI (AK O (kp [6,5,0,1] O) (Am (λa w=>∃(v1:Value) (W:List Int),IV B S h (32,[]) a w [(5,v1)] (OS AM.int 3 v1 W::L) λ_ _=>Do N W=some r) ?_ ?_)))))))
 ·refine A5 (λX=>λa w=>∃(F:Value) (x:List Int) (z:Int),IV B S h (32,[]) a w [(0,b),(1,c),(5,F),(6,vI z)] (OS AM.int 3 F x::L) λ_ _=>AH z∧CQ N i m (Do N) X x z=some r) N ?_ ?_ ?_
  ·intro t u d g
   have G:=hs.nil AM.int 3
   exact⟨(vN),([]:List Int),0,_,_,d.sub (kp [0,1,5,6] O),g,G,(CA.refl S h),(iq (n:=0) O),E⟩
  ·rintro t u ⟨_,_,_,_,_,_,_,_,_,_,E⟩
   rw[CQ] at E;cases E
  rintro X t u ⟨F,x,z,A,C,d,g,p,s,aj,E⟩
  refine Ac ?_ d g
  clear d g u t
  rw[CQ] at E
  refine AC (AI (AA O (AA O (An O (k.mono' s) BQ O λak=>Ar O (AN (kp [11,0,1,5,6] O) (AW O E (λY E=>?_) (λY E=>?_)))))))
  ·refine AQ (AC (BB (AI (AK O (kp [7,0,1,5,6] O) (AC (AI (AA O (AA O (An O (o.mono' s) BQ O λal=>Ar O (AN (kp [17,7,0,1,5,6] O) (Ge (λa w=>∃(j:Int),IV B A C (32,[]) a w [(0,b),(1,c),(5,F),(6,vI z),(7,vI j)] (OS AM.int 3 F x::L) λ_ _=>AH j∧Fb N i x z (CQ N i m (Do N) X) j=some r) ?_ ?_)))))))))))
   ·refine AW O E (λZ E=>?_) (λZ E=>?_)
    ·refine BZ (.inl O) (AA O (AA O ?_))
     obtain⟨ab,H,E⟩:=bd E
     refine BE O O (o.mono' s) BQ H O λam ac=>Af A9 p.1 O ac Ag O λad=>AK O (kp [7,0,1,5,6] O) (WF.nil (λt u d g=>?_))
     exact⟨ab,_,_,d.sub (kp [0,1,5,6,7] O),g,p,(CA.refl A C),ad,E⟩
    refine AQ (WF.nil (λt u d g=>?_))
    exact⟨0,_,_,d.sub (kp [0,1,5,6,7] O),g,p,(CA.refl A C),(iq (n:=0) O),E⟩
   rintro t u ⟨j,an,ao,d,g,y,I,ap,E⟩
   refine Ac ?_ d g
   clear d g u t
   rw[Fb] at E
   refine D3 (AG 7 (AA O (AA O (AA O ?_))))
   obtain⟨D,J,E⟩:=bd E
   refine BE O O (k.mono' (s.trans I)) BQ J O λaq ae=>Af A9 y.1 O ae Ag O λar=>AA O (Ck O (AF (DY (cs:=[vI (BD (D-j))]) Ef O O O O O O O y λau av K af=>?_)))
   obtain⟨M,E⟩:=Lr E
   refine OA (r:=AM.int) (l:=x) (xs:=([(BD (D-j))]:List Int)) O O Ef O mh ⟨_,_,O,⟨O,(BK _)⟩,O⟩ O O M O K (λ_=>(.tail .head)) λag aw Q ah=>?_
   have U:=Q.drop .head
   refine AG 1 (AY O (AF (AZ (kp [5,0,1,6] O) (BO (BZ (.inl O) (AA O (Ai O (AK O (kp [6,5,0,1] O) (WF.nil (λt u d g=>?_))))))))))
   exact⟨ag,(x++([(BD (D-j))]:List Int)),(BD (z+1)),_,_,d.sub (kp [0,1,5,6] O),g,U,(s.trans (I.trans (af.trans ah))),(BK _),E⟩
  refine BC O (λt u d g=>?_)
  exact⟨F,x,_,_,d.sub (kp [5] O),g,p,s,E⟩
 rintro t u ⟨v1,W,ax,ay,d,g,V,ai,E⟩
 refine Ac ?_ d g
 clear d g u t
 rw[Do] at E
 refine AI (AA O (AK O (kp [4] O) (Ad (λt u d g=>?_))))
 cases E
 exact Dx d g O O ai V
theorem MD (hs:St S L h) {b:Value}{i:AX}(k:Rd S h B1 b i) {c:Value}{d:Ak}(m:Rd S h BH c d) {r:Int}(E:GW N i d=some r):
 CL Tryz.prog 19 #[b,c] S h (λv S' h'=>v=vI r∧AH r∧St S' (L) h'):=by
 refine BG (l:=[b,c]) 33 Tryz.func19 O Tryz.ntmps19 O λB=>?_
 rw[GW] at E
 refine WF.sl (B4 O k (λe=>by cases e) O hs λq1 S2 h3 w u x=>B4 O (m.mono u) (λe=>by cases e) O w λq8 S9 ab a g j=>AG 1 (AY O (AF (AZ (kp [3,2] O) (AC (AI (Ae O j Dk G1 O λac y=>Af A9 a.1 O y Ag O λad=>Gf O (AA O (AV 7 15 (.bool ((decide (0≤d.Way))&&(decide (d.Way<(↑i.Links.length:Int))))) ?_ ?_)))))))))
 ·cases ae:(decide (0≤d.Way))
  ·exact Aa O O
  exact AB O (Ae O j Dk G1 O λaf z=>AB O (Af A9 a.1 O z Ag O λag=>AB O (Ae O (x.mono g) D1 Gc O λah A=>AB O (Ao A9 a.1 O A JR O λai C=>AB O (An O C Hf O λaj=>AB O (Ar O (AJ O (AU O))))))))
 refine AN (kp [15,3,2] O) (AW O E (λD E=>?_) (λD E=>?_))
 ·refine AI (Ae O (x.mono g) D1 Gc O λak F=>Ao A9 a.1 O F JR O λal G=>Ae O j Dk G1 O λam H=>Af A9 a.1 O H Ag O λan=>?_)
  obtain⟨ao,o,E⟩:=bd E
  refine BE O O G Hf o O λap I=>Ae O I A7.f_Delay MZ O λaq J=>Af A9 a.1 O J Ag O λK=>AK O (kp [4] O) (Ad (λaa ww p s=>?_))
  cases E
  exact Dx p s O O (u.trans g) ⟨O,K,a⟩
 refine AQ (AC (AI (Ae O j Dk G1 O λar M=>Af A9 a.1 O M Ag O λau=>BL O (AN (kp [25,3,2] O) (AW O E (λQ E=>?_) (λQ E=>?_))))))
 ·refine AI (AK O (kp [4] O) (Ad (λaa ww p s=>?_)))
  cases E
  exact Dx p s O O (u.trans g) ⟨O,(iq (n:=0) O),a⟩
 refine AQ (AI (Ae O (x.mono g) BP C1 O λav U=>Ao A9 a.1 O U F7 O λaw V=>Ae O j Ak.f_From PP O λax W=>Af A9 a.1 O W Ag O λay=>?_))
 obtain⟨az,t,E⟩:=bd E
 refine BE O O V FA t O λa0 X=>Ae O X Dv.f_Delay PN O λa1 Y=>Af A9 a.1 O Y Ag O λZ=>AK O (kp [4] O) (Ad (λaa ww p s=>?_))
 cases E
 exact Dx p s O O (u.trans g) ⟨O,Z,a⟩
theorem K1 (hs:St S L h) {bo:Value}{j:AX}(d6:Rd S h B1 bo j) {bp:Value}{d:Aj}(d7:Rd S h CO bp d) {a5:Value}{b9:Ek}(c3:Rd S h Fm a5 b9) {r:Bool}(E:FQ N j d b9=some r):
 CL Tryz.prog 5 #[bo,bp,a5] S h (λv S' h'=>v= .bool r∧St S' (L) h'):=by
 refine BG (l:=[bo,bp,a5]) 268 Tryz.func5 O Tryz.ntmps5 O λB=>?_
 rw[FQ] at E
 refine WF.sl (B4 O d6 (λe=>by cases e) O hs λq1 S2 h3 nd e5 k6=>B4 O (d7.mono e5) (λe=>by cases e) O nd λq8 S9 ta ii c0 ne=>B4 O (c3.mono (e5.trans c0)) (λe=>by cases e) O ii λtb tc td ij c1 nf=>AG 1 (AY O (AF (AZ (kp [5,4,3] O) (AC (Bq (.inl O) ij ?_))))))
 obtain⟨A,ik,E⟩:=bd E
 refine A6 O O O iY O (λh' o=>MB (St.all h') ik) (AY O (BM (kp [7,5,4,3] O) λte az ca=>AC (AC (Bq (.inl O) az ?_))))
 have il:=k6.mono (c0.trans (c1.trans ca))
 refine B8 Bd az.1 O il G6 (λe=>by cases e) O λtf ng=>?_
 have im:=ne.mono (c1.trans ca)
 refine B8 Bd az.1 O im HI (λe=>by cases e) O λtg nh=>?_
 have fe:=nf.mono ca
 refine B8 Bd az.1 O fe Tz (λe=>by cases e) O λth ni=>?_
 obtain⟨io,ip,E⟩:=bd E
 refine A6 O O O gC O (λh' o=>Mc (St.all h') (ng.mono (o.all az.1)) (nh.mono (o.all az.1)) (ni.mono (o.all az.1)) ip) (BY O (AA O (AV 5 34 (.bool ((!io)||(decide (0<(↑b9.Swaps.length:Int))))) ?_ ?_)))
 ·cases ti:(!io)
  ·exact AB O (Ae O fe Mp Ri O λtj nj=>AB O (Ao Bd az.1 O nj VY O λtk nk=>AB O (An O nk T3 O λtl=>AB O (Bf O (AJ O (AU O))))))
  exact Aa O O
 refine BM (kp [34,7,5,4,3] O) λtm br cb=>AW O E (λnl E=>?_) (λnl E=>?_)
 ·refine AI (AA O (AK O (kp [6] O) (Ad (λC D s t=>?_))))
  cases E
  exact Dx s t O O (e5.trans (c0.trans (c1.trans (ca.trans cb)))) ⟨O,br⟩
 refine AQ (WF.sl (AG 3 ?_))
 have ff:=il.mono cb
 refine B8 A9 br.1 O ff G6 (λe=>by cases e) O λtn nm=>?_
 have ir:=im.mono cb
 refine B8 A9 br.1 O ir HI (λe=>by cases e) O λtp nn=>B8 A9 br.1 O (fe.mono cb) Tz (λe=>by cases e) O λtq no=>AF ?_
 obtain⟨c,it,E⟩:=bd E
 refine Cv O O O W8 O (K9 br nm nn no it) λtr fg ts c2 p=>?_
 obtain⟨tt,H,F,rfl,np,iu⟩:=p
 refine AG 4 (AA O (Bo O (Bo O (Bo O (AF (Cp Oa O iu λG tu iv cc=>?_))))))
 obtain⟨ab,ac,ae,af,ag,ah,rfl,tv,fh,nq,iw,nr,ns,iy⟩:=CO.ex (np.mono cc)
 refine G7 (vs:=[vI c.1.Hour,ab,ac,ae,af,ag,ah]) (cs':=[vI c.1.Hour,ab,ac,ae,af,ag,ah]) O O O (AE O (AE fh.one (AE nq.one (AE iw.one (AE nr.one (AE ns.one (AE iy.one EH))))))) HI O iv .head O O λfi c4 bh=>AG 2 (AY O (AY O (AF (AZ (kp [10,9,8,7,4,3] O) (AI ?_)))))
 have c5:=ir.mono (c2.trans (cc.trans bh))
 refine Ae O c5 Iw Dm O λtw nt=>Ao A9 c4.1 O nt Gu O λbi nu=>AK O (kp [11,10,9,8,7,4,3] O) (AI (AK O (kp [12,11,10,9,8,7,4,3] O) (AI (Ae O c5 Jg Iq O λtx nv=>Ao A9 c4.1 O nv BW O λau iz=>AK O (kp [13,12,11,10,9,8,7,4,3] O) (AI (AK O (kp [14,13,12,11,10,9,8,7,4,3] O) (AC (AI (AK O (kp [15,14,13,12,11,10,9,8,7,4,3] O) (Am (λa w=>∃(K:Value) (Q:List Int),IV B fg fi (268,[]) a w [(13,au),(12,vN),(10,F),(9,H),(8,vP G 0),(7,.bool A),(4,q8),(3,q1),(14,K)] (OS AM.int 3 K Q::Bx G 36 [vI c.1.Hour,ab,ac,ae,af,ag,ah]::OS BH 50 H c.2.1::OS AM.int 3 F c.2.2::L) λ_ _=>A0 N j d A c Q=some r) ?_ ?_))))))))))
 ·refine A5 (λn1=>λa w=>∃(M:Value) (z:List Int) (y:Int),IV B fg fi (268,[]) a w [(13,au),(12,vN),(11,bi),(10,F),(9,H),(8,vP G 0),(7,.bool A),(4,q8),(3,q1),(14,M),(15,vI y)] (OS AM.int 3 M z::Bx G 36 [vI c.1.Hour,ab,ac,ae,af,ag,ah]::OS BH 50 H c.2.1::OS AM.int 3 F c.2.2::L) λ_ _=>AH y∧Az N j d c (A0 N j d A c) n1 z y=some r) N ?_ ?_ ?_
  ·intro C D s t
   have fj:=c4.nil AM.int 3
   exact⟨(vN),([]:List Int),0,_,_,s.sub (kp [13,12,11,10,9,8,7,4,3,14,15] O),t,fj,(CA.refl fg fi),(iq (n:=0) O),E⟩
  ·rintro C D ⟨_,_,_,_,_,_,_,_,_,_,E⟩
   rw[Az] at E;cases E
  rintro n1 C D ⟨M,z,y,c6,c7,s,t,bq,a0,n7,E⟩
  refine Ac ?_ s t
  clear s t D C
  rw[Az] at E
  refine AC (AI (AA O ?_))
  have ed:=ff.mono (c2.trans (cc.trans (bh.trans a0)))
  refine Ae O ed BP C1 O λn8 i0=>Ao A9 bq.1 O i0 F7 O λoa i1=>An O i1 FA O λob=>Ar O (AN (kp [52,13,12,11,10,9,8,7,4,3,14,15] O) (AW O E (λi2 E=>?_) (λi2 E=>?_)))
  ·refine AQ (AC (BB (AI (AA O (AA O ?_)))))
   obtain⟨i3,fk,E⟩:=bd E
   refine BE O O (nu.mono' a0) Ev fk O λoc i4=>Ao A9 bq.1 O i4 BW O λi5 i6=>AK O (kp [16,13,12,11,10,9,8,7,4,3,14,15] O) (AC (AI (AK O (kp [17,16,13,12,11,10,9,8,7,4,3,14,15] O) (Am (λa w=>∃(cd:Value) (ce:List Int),IV B c6 c7 (268,[]) a w [(13,au),(12,vN),(11,bi),(10,F),(9,H),(8,vP G 0),(7,.bool A),(4,q8),(3,q1),(14,M),(15,vI y),(16,cd)] (OS AM.int 3 M z::Bx G 36 [vI c.1.Hour,ab,ac,ae,af,ag,ah]::OS BH 50 H c.2.1::OS AM.int 3 F c.2.2::L) λS' h'=>Sl S' h' AM.int cd ce∧DX N j d c z y (Az N j d c (A0 N j d A c) n1) ce=some r) ?_ ?_))))
   ·refine A5 (λn3=>λa w=>∃(bs:Value) (bt:List Int) (a6:Int),IV B c6 c7 (268,[]) a w [(13,au),(12,vN),(11,bi),(10,F),(9,H),(8,vP G 0),(7,.bool A),(4,q8),(3,q1),(14,M),(15,vI y),(16,bs),(17,vI a6)] (OS AM.int 3 M z::Bx G 36 [vI c.1.Hour,ab,ac,ae,af,ag,ah]::OS BH 50 H c.2.1::OS AM.int 3 F c.2.2::L) λS' h'=>Sl S' h' AM.int bs bt∧AH a6∧Bn N c y (DX N j d c z y (Az N j d c (A0 N j d A c) n1)) n3 bt a6=some r) N ?_ ?_ ?_
    ·intro C D s t
     exact⟨i5,i3,0,_,_,s.sub (kp [13,12,11,10,9,8,7,4,3,14,15,16,17] O),t,bq,(CA.refl c6 c7),i6,(iq (n:=0) O),E⟩
    ·rintro C D ⟨_,_,_,_,_,_,_,_,_,_,_,E⟩
     rw[Bn] at E;cases E
    rintro n3 C D ⟨bs,bt,a6,ee,ef,s,t,J,eg,c8,od,E⟩
    refine Ac ?_ s t
    clear s t D C
    rw[Bn] at E
    refine AC (AI (AA O (AA O (Kc J (mt (mt mh)) O F9 O λoe=>Ar O (AN (kp [62,13,12,11,10,9,8,7,4,3,14,15,16,17] O) (AW O E (λi7 E=>?_) (λi7 E=>?_)))))))
    ·refine AQ (AC (Am (λa w=>∃(cf:Value) (cg:List Int),IV B ee ef (268,[]) a w [(13,au),(12,vN),(11,bi),(10,F),(9,H),(8,vP G 0),(7,.bool A),(4,q8),(3,q1),(14,M),(15,vI y),(17,vI a6),(16,cf)] (OS AM.int 3 M z::Bx G 36 [vI c.1.Hour,ab,ac,ae,af,ag,ah]::OS BH 50 H c.2.1::OS AM.int 3 F c.2.2::L) λS' h'=>Sl S' h' AM.int cf cg∧EN N a6 (Bn N c y (DX N j d c z y (Az N j d c (A0 N j d A c) n1)) n3) cg=some r) ?_ ?_))
     ·refine AI (AA O (AA O ?_))
      obtain⟨og,fl,E⟩:=bd E
      refine A8 J (mt (mt mh)) O O F9 fl O λoh fm=>Fe O fm Rh O λoi fn=>?_
      obtain⟨i8,fo,E⟩:=bd E
      have i9:=J.epAt (mt (mt mh)) fo Ak.f_To fn
      refine Af A9 (λ_ x=>x) O i9 Ag O λoj=>AA O (BL O (AA O ?_))
      obtain⟨ja,W,E⟩:=bd E
      refine AV 7 79 (.bool ja) ?_ ?_
      ·cases eh:(decide (i8.To=y))
       ·have W:=F5 eh W
        cases W
        exact Aa O O
       have W:=Fy eh W
       refine AB O (AA O (AB O (AA O (AB O ?_))))
       obtain⟨ok,fp,W⟩:=bd W
       refine A8 J (mt (mt mh)) O O F9 fp O λol fq=>AB O (Fe O fq G1 O λom fr=>AB O ?_)
       obtain⟨oo,fs,W⟩:=bd W
       have jb:=J.epAt (mt (mt mh)) fs Dk fr
       refine Af A9 (λ_ x=>x) O jb Ag O λop=>AB O (BL O (AJ O ?_))
       cases W
       exact AU O
      refine AN (kp [79,13,12,11,10,9,8,7,4,3,14,15,16,17] O) (AW O E (λjc E=>?_) (λjc E=>?_))
      ·refine D3 (AG 6 (AA O (AA O (AA O ?_))))
       obtain⟨oq,ft,E⟩:=bd E
       refine A8 J (mt (mt mh)) O O F9 ft O λos fu=>Fe O fu Ha O λot fv=>?_
       obtain⟨ou,fw,E⟩:=bd E
       have jd:=J.epAt (mt (mt mh)) fw Ak.f_Part fv
       refine Ao A9 (λ_ x=>x) O jd BW O λov je=>AF ?_
       obtain⟨jf,fx,E⟩:=bd E
       refine BX O O O Qt O J (Ip (St.all _) (c8.mono (λb hb=>J.1 b hb) (λ_ _=>rfl)) (je.mono (λb hb=>J.1 b hb) (λ_ _=>rfl)) fx) λjg ow ox nw jh ji p=>?_
       have fy:=p
       have c9:=J.join ji fy ⟨OS.flat (λ{_ _ _ _ _ _} k=>k),trivial⟩
       simp only[List.cons_append,List.nil_append] at c9
       refine AG 1 (AY O (AF (AZ (kp [16,13,12,11,10,9,8,7,4,3,14,15,17] O) (WF.nil (λC D s t=>?_)))))
       obtain⟨oy,f0,jj,jk⟩:=c9.pubs .head
       exact⟨jg,jf,_,_,s.sub (kp [13,12,11,10,9,8,7,4,3,14,15,17,16] O),t,f0,(jh.trans jj),jk,E⟩
      refine AQ (WF.nil (λC D s t=>?_))
      exact⟨bs,bt,_,_,s.sub (kp [13,12,11,10,9,8,7,4,3,14,15,17,16] O),t,J,(CA.refl ee ef),c8,E⟩
     rintro C D ⟨cf,cg,oz,o0,s,t,f1,jl,jm,E⟩
     refine Ac ?_ s t
     clear s t D C
     rw[EN] at E
     refine BZ (.inl O) (AA O (Ai O (AK O (kp [17,13,12,11,10,9,8,7,4,3,14,15,16] O) (WF.nil (λC D s t=>?_)))))
     exact⟨cf,cg,(BD (a6+1)),_,_,s.sub (kp [13,12,11,10,9,8,7,4,3,14,15,16,17] O),t,f1,(eg.trans jl),jm,(BK _),E⟩
    refine BC O (λC D s t=>?_)
    exact⟨bs,bt,_,_,s.sub (kp [13,12,11,10,9,8,7,4,3,14,15,16] O),t,J,eg,c8,E⟩
   rintro C D ⟨cd,ce,da,db,s,t,f2,bj,jn,E⟩
   refine Ac ?_ s t
   clear s t D C
   rw[DX] at E
   refine AC (AI (AK O (kp [18,13,12,11,10,9,8,7,4,3,14,15,16] O) (Am (λa w=>∃(ch:Value) (ci:List Int),IV B da db (268,[]) a w [(13,au),(12,vN),(11,bi),(10,F),(9,H),(8,vP G 0),(7,.bool A),(4,q8),(3,q1),(14,M),(15,vI y),(16,ch)] (OS AM.int 3 M z::Bx G 36 [vI c.1.Hour,ab,ac,ae,af,ag,ah]::OS BH 50 H c.2.1::OS AM.int 3 F c.2.2::L) λS' h'=>Sl S' h' AM.int ch ci∧DW N j c z y (Az N j d c (A0 N j d A c) n1) ci=some r) ?_ ?_)))
   ·refine A5 (λn6=>λa w=>∃(bu:Value) (bv:List Int) (a7:Int),IV B da db (268,[]) a w [(13,au),(12,vN),(11,bi),(10,F),(9,H),(8,vP G 0),(7,.bool A),(4,q8),(3,q1),(14,M),(15,vI y),(16,bu),(18,vI a7)] (OS AM.int 3 M z::Bx G 36 [vI c.1.Hour,ab,ac,ae,af,ag,ah]::OS BH 50 H c.2.1::OS AM.int 3 F c.2.2::L) λS' h'=>Sl S' h' AM.int bu bv∧AH a7∧Bm N d y (DW N j c z y (Az N j d c (A0 N j d A c) n1)) n6 bv a7=some r) N ?_ ?_ ?_
    ·intro C D s t
     exact⟨cd,ce,0,_,_,s.sub (kp [13,12,11,10,9,8,7,4,3,14,15,16,18] O),t,f2,(CA.refl da db),jn,(iq (n:=0) O),E⟩
    ·rintro C D ⟨_,_,_,_,_,_,_,_,_,_,_,E⟩
     rw[Bm] at E;cases E
    rintro n6 C D ⟨bu,bv,a7,ei,ej,s,t,I,dc,dd,o3,E⟩
    refine Ac ?_ s t
    clear s t D C
    rw[Bm] at E
    refine AC (AI (AA O ?_))
    have bw:=c5.mono (a0.trans (bj.trans dc))
    refine Ae O bw D0 G2 O λo4 jo=>Ao A9 I.1 O jo I3 O λo5 jp=>An O jp H9 O λo6=>Ar O (AN (kp [91,13,12,11,10,9,8,7,4,3,14,15,16,18] O) (AW O E (λjq E=>?_) (λjq E=>?_)))
    ·refine AQ (AC (Am (λa w=>∃(cj:Value) (ck:List Int),IV B ei ej (268,[]) a w [(13,au),(12,vN),(11,bi),(10,F),(9,H),(8,vP G 0),(7,.bool A),(4,q8),(3,q1),(14,M),(15,vI y),(18,vI a7),(16,cj)] (OS AM.int 3 M z::Bx G 36 [vI c.1.Hour,ab,ac,ae,af,ag,ah]::OS BH 50 H c.2.1::OS AM.int 3 F c.2.2::L) λS' h'=>Sl S' h' AM.int cj ck∧EM N a7 (Bm N d y (DW N j c z y (Az N j d c (A0 N j d A c) n1)) n6) ck=some r) ?_ ?_))
     ·refine AC (BZ (.inr ⟨mo,by kernel_rfl⟩) (Ae O bw D0 G2 O λo7 jr=>Ao A9 I.1 O jr I3 O λo8 js=>AA O ?_))
      obtain⟨jt,f3,E⟩:=bd E
      refine BE O O js H9 f3 O λo9 ju=>Ae O ju Al.f_To KY O λpa jv=>Af A9 I.1 O jv Ag O λpb=>AA O (BL O (AA O ?_))
      obtain⟨jw,aj,E⟩:=bd E
      refine AV 10 112 (.bool jw) ?_ ?_
      ·cases ek:(decide (jt.To=y))
       ·have aj:=F5 ek aj
        cases aj
        exact Aa O O
       have aj:=Fy ek aj
       refine AB O (Ae O bw D0 G2 O λpc jx=>AB O (Ao A9 I.1 O jx I3 O λpd jy=>AB O (AA O (AB O ?_))))
       obtain⟨pe,f4,aj⟩:=bd aj
       refine BE O O jy H9 f4 O λpf jz=>AB O (Ae O jz Ly Ll O λpg j0=>AB O (Af A9 I.1 O j0 Ag O λph=>AB O (Ae O bw Aj.f_Hour HK O λpi j1=>AB O (Af A9 I.1 O j1 Ag O λpj=>AB O (GQ O (AJ O ?_))))))
       cases aj
       exact AU O
      refine AN (kp [112,13,12,11,10,9,8,7,4,3,14,15,16,18] O) (AW O E (λj2 E=>?_) (λj2 E=>?_))
      ·refine D3 (AG 7 (AA O (Ae O bw D0 G2 O λpk j3=>Ao A9 I.1 O j3 I3 O λpl j4=>AA O ?_)))
       obtain⟨pm,f5,E⟩:=bd E
       refine BE O O j4 H9 f5 O λpn j5=>Ae O j5 Al.f_Part KX O λpo j6=>Ao A9 I.1 O j6 BW O λpp j7=>AF ?_
       obtain⟨j8,f6,E⟩:=bd E
       refine BX O O O Qt O I (Ip (St.all _) (dd.mono (λb hb=>I.1 b hb) (λ_ _=>rfl)) (j7.mono (λb hb=>I.1 b hb) (λ_ _=>rfl)) f6) λj9 pq pr nx ka kb p=>?_
       have f7:=p
       have de:=I.join kb f7 ⟨OS.flat (λ{_ _ _ _ _ _} k=>k),trivial⟩
       simp only[List.cons_append,List.nil_append] at de
       refine AG 1 (AY O (AF (AZ (kp [16,13,12,11,10,9,8,7,4,3,14,15,18] O) (WF.nil (λC D s t=>?_)))))
       obtain⟨ps,f8,kc,kd⟩:=de.pubs .head
       exact⟨j9,j8,_,_,s.sub (kp [13,12,11,10,9,8,7,4,3,14,15,18,16] O),t,f8,(ka.trans kc),kd,E⟩
      refine AQ (WF.nil (λC D s t=>?_))
      exact⟨bu,bv,_,_,s.sub (kp [13,12,11,10,9,8,7,4,3,14,15,18,16] O),t,I,(CA.refl ei ej),dd,E⟩
     rintro C D ⟨cj,ck,pt,pu,s,t,f9,ke,kf,E⟩
     refine Ac ?_ s t
     clear s t D C
     rw[EM] at E
     refine BZ (.inl O) (AA O (Ai O (AK O (kp [18,13,12,11,10,9,8,7,4,3,14,15,16] O) (WF.nil (λC D s t=>?_)))))
     exact⟨cj,ck,(BD (a7+1)),_,_,s.sub (kp [13,12,11,10,9,8,7,4,3,14,15,16,18] O),t,f9,(dc.trans ke),kf,(BK _),E⟩
    refine BC O (λC D s t=>?_)
    exact⟨bu,bv,_,_,s.sub (kp [13,12,11,10,9,8,7,4,3,14,15,16] O),t,I,dc,dd,E⟩
   rintro C D ⟨ch,ci,df,pv,s,t,dg,bx,el,E⟩
   refine Ac ?_ s t
   clear s t D C
   rw[DW] at E
   refine WF.sl (AG 2 (AA O (AA O (AF ?_))))
   obtain⟨aw,ga,E⟩:=bd E
   refine BX O O O ZJ O dg (KT (St.all _) (el.mono (λb hb=>dg.1 b hb) (λ_ _=>rfl)) ga) λpw px py gb bk pz p=>?_
   obtain⟨rfl,kg,ny⟩:=p
   refine DY (cs:=[vI aw]) Ef O O O O O O O gb λp0 p1 gc bl=>?_
   obtain⟨gd,E⟩:=Lr E
   refine OA (r:=AM.int) (l:=z) (xs:=([aw]:List Int)) O O Ef O mh ⟨_,_,O,⟨O,kg⟩,O⟩ O O gd O gc (λ_=>(.tail .head)) λa8 dh ge bm=>?_
   have gf:=ge.drop .head
   refine AG 1 (AY O (AF (AZ (kp [14,13,12,11,10,9,8,7,4,3,15,16] O) (AC (AI (AK O (kp [19,14,13,12,11,10,9,8,7,4,3,15,16] O) (Am (λa w=>∃(di:Value) (dj:List Int),IV B df dh (268,[]) a w [(14,a8),(13,au),(12,vN),(11,bi),(10,F),(9,H),(8,vP G 0),(7,.bool A),(4,q8),(3,q1),(15,vI y),(16,di)] (OS AM.int 3 a8 (z++([aw]:List Int))::Bx G 36 [vI c.1.Hour,ab,ac,ae,af,ag,ah]::OS BH 50 H c.2.1::OS AM.int 3 F c.2.2::L) λS' h'=>Sl S' h' AM.int di dj∧Co N j c z y aw (Az N j d c (A0 N j d A c) n1) dj=some r) ?_ ?_)))))))
   ·refine A5 (λn9=>λa w=>∃(bz:Value) (b0:List Int) (a9:Int),IV B df dh (268,[]) a w [(14,a8),(13,au),(12,vN),(11,bi),(10,F),(9,H),(8,vP G 0),(7,.bool A),(4,q8),(3,q1),(15,vI y),(16,bz),(19,vI a9)] (OS AM.int 3 a8 (z++([aw]:List Int))::Bx G 36 [vI c.1.Hour,ab,ac,ae,af,ag,ah]::OS BH 50 H c.2.1::OS AM.int 3 F c.2.2::L) λS' h'=>Sl S' h' AM.int bz b0∧AH a9∧Bl N c y (Co N j c z y aw (Az N j d c (A0 N j d A c) n1)) n9 b0 a9=some r) N ?_ ?_ ?_
    ·intro C D s t
     exact⟨ch,ci,0,_,_,s.sub (kp [14,13,12,11,10,9,8,7,4,3,15,16,19] O),t,gf,(CA.refl df dh),(el.mono' (bk.trans (bl.trans bm))),(iq (n:=0) O),E⟩
    ·rintro C D ⟨_,_,_,_,_,_,_,_,_,_,_,E⟩
     rw[Bl] at E;cases E
    rintro n9 C D ⟨bz,b0,a9,em,en,s,t,U,eo,dk,p2,E⟩
    refine Ac ?_ s t
    clear s t D C
    rw[Bl] at E
    refine AC (AI (AA O (AA O (Kc U (mt (mt mh)) O F9 O λp3=>Ar O (AN (kp [129,14,13,12,11,10,9,8,7,4,3,15,16,19] O) (AW O E (λkh E=>?_) (λkh E=>?_)))))))
    ·refine AQ (AC (Am (λa w=>∃(cl:Value) (cm:List Int),IV B em en (268,[]) a w [(14,a8),(13,au),(12,vN),(11,bi),(10,F),(9,H),(8,vP G 0),(7,.bool A),(4,q8),(3,q1),(15,vI y),(19,vI a9),(16,cl)] (OS AM.int 3 a8 (z++([aw]:List Int))::Bx G 36 [vI c.1.Hour,ab,ac,ae,af,ag,ah]::OS BH 50 H c.2.1::OS AM.int 3 F c.2.2::L) λS' h'=>Sl S' h' AM.int cl cm∧EC N a9 (Bl N c y (Co N j c z y aw (Az N j d c (A0 N j d A c) n1)) n9) cm=some r) ?_ ?_))
     ·refine AI (AA O (AA O ?_))
      obtain⟨p4,gg,E⟩:=bd E
      refine A8 U (mt (mt mh)) O O F9 gg O λp5 gh=>Fe O gh PP O λp6 gi=>?_
      obtain⟨p7,gj,E⟩:=bd E
      have ki:=U.epAt (mt (mt mh)) gj Ak.f_From gi
      refine Af A9 (λ_ x=>x) O ki Ag O λp8=>AA O (BL O (AN (kp [138,14,13,12,11,10,9,8,7,4,3,15,16,19] O) (AW O E (λkj E=>?_) (λkj E=>?_))))
      ·refine D3 (AG 6 (AA O (AA O (AA O ?_))))
       obtain⟨p9,gk,E⟩:=bd E
       refine A8 U (mt (mt mh)) O O F9 gk O λqa gl=>Fe O gl Ha O λqb gm=>?_
       obtain⟨qc,gn,E⟩:=bd E
       have kk:=U.epAt (mt (mt mh)) gn Ak.f_Part gm
       refine Ao A9 (λ_ x=>x) O kk BW O λqd kl=>AF ?_
       obtain⟨km,gp,E⟩:=bd E
       refine BX O O O fY O U (MC (St.all _) (dk.mono (λb hb=>U.1 b hb) (λ_ _=>rfl)) (kl.mono (λb hb=>U.1 b hb) (λ_ _=>rfl)) gp) λkn qe qf nz ko kq p=>?_
       have gq:=p
       have dl:=U.join kq gq ⟨OS.flat (λ{_ _ _ _ _ _} k=>k),trivial⟩
       simp only[List.cons_append,List.nil_append] at dl
       refine AG 1 (AY O (AF (AZ (kp [16,14,13,12,11,10,9,8,7,4,3,15,19] O) (WF.nil (λC D s t=>?_)))))
       obtain⟨qg,gr,kr,ks⟩:=dl.pubs .head
       exact⟨kn,km,_,_,s.sub (kp [14,13,12,11,10,9,8,7,4,3,15,19,16] O),t,gr,(ko.trans kr),ks,E⟩
      refine AQ (WF.nil (λC D s t=>?_))
      exact⟨bz,b0,_,_,s.sub (kp [14,13,12,11,10,9,8,7,4,3,15,19,16] O),t,U,(CA.refl em en),dk,E⟩
     rintro C D ⟨cl,cm,qh,qi,s,t,gs,kt,ku,E⟩
     refine Ac ?_ s t
     clear s t D C
     rw[EC] at E
     refine BZ (.inl O) (AA O (Ai O (AK O (kp [19,14,13,12,11,10,9,8,7,4,3,15,16] O) (WF.nil (λC D s t=>?_)))))
     exact⟨cl,cm,(BD (a9+1)),_,_,s.sub (kp [14,13,12,11,10,9,8,7,4,3,15,16,19] O),t,gs,(eo.trans kt),ku,(BK _),E⟩
    refine BC O (λC D s t=>?_)
    exact⟨bz,b0,_,_,s.sub (kp [14,13,12,11,10,9,8,7,4,3,15,16] O),t,U,eo,dk,E⟩
   rintro C D ⟨di,dj,qj,qk,s,t,av,b1,kv,E⟩
   refine Ac ?_ s t
   clear s t D C
   rw[Co] at E
   refine AC (Bq (.inl O) av (AD Dm O (AS Bd av O (mt mh) O Gu O (An O (fh.mono' (bh.trans (a0.trans (bj.trans (bx.trans (bk.trans (bl.trans (bm.trans b1)))))))) Ev O λql=>Ae O (ed.mono (bj.trans (bx.trans (bk.trans (bl.trans (bm.trans b1)))))) BP C1 O λqm kw=>Ao Bd av.1 O kw F7 O λqn kx=>An O kx FA O λqo=>Bt O (AA O ?_)))))
   obtain⟨ky,X,E⟩:=bd E
   refine AV 9 162 (.bool ky) ?_ ?_
   ·cases ep:(decide ((↑c.1.Own.length:Int)≠(↑j.Places.length:Int)))
    ·have X:=F5 ep X
     refine AB O (AA O (AB O (AD Dm O (AB O (AS Bd av O (mt mh) O Gu O (AB O (AA O (AB O ?_))))))))
     obtain⟨qp,gt,X⟩:=bd X
     refine BE O O (fh.mono' (bh.trans (a0.trans (bj.trans (bx.trans (bk.trans (bl.trans (bm.trans b1)))))))) Ev gt O λqq kz=>AB O (Ao Bd av.1 O kz BW O λqr k0=>AB O ?_)
     obtain⟨qs,gu,X⟩:=bd X
     refine A6 O O O IS O (λh' o=>BA (St.all h') (kv.mono' (o.all av.1)) (k0.mono' (o.all av.1)) gu) (AB O (BY O (AJ O ?_)))
     cases X
     exact AU O
    have X:=Fy ep X
    cases X
    exact Aa O O
   refine BM (kp [162,14,13,12,11,10,9,8,7,4,3,15] O) λqt dm eq=>AW O E (λk1 E=>?_) (λk1 E=>?_)
   ·refine AI (AK O (kp [6] O) (Ad (λC D s t=>?_)))
    have gv:=dm.sel [] 4 O
    cases E
    exact Dx s t O O (e5.trans (c0.trans (c1.trans (ca.trans (cb.trans (c2.trans (cc.trans (bh.trans (a0.trans (bj.trans (bx.trans (bk.trans (bl.trans (bm.trans (b1.trans eq))))))))))))))) ⟨O,gv⟩
   refine AQ (BO (BZ (.inl O) (AA O (Ai O (AK O (kp [15,14,13,12,11,10,9,8,7,4,3] O) (WF.nil (λC D s t=>?_)))))))
   exact⟨a8,(z++([aw]:List Int)),(BD (y+1)),_,_,s.sub (kp [13,12,11,10,9,8,7,4,3,14,15] O),t,dm,(a0.trans (bj.trans (bx.trans (bk.trans (bl.trans (bm.trans (b1.trans eq))))))),(BK _),E⟩
  refine BC O (λC D s t=>?_)
  exact⟨M,z,_,_,s.sub (kp [13,12,10,9,8,7,4,3,14] O),t,bq,a0,E⟩
 rintro C D ⟨K,Q,dn,dp,s,t,gw,a1,E⟩
 refine Ac ?_ s t
 clear s t D C
 rw[A0] at E
 refine AC (AI (AK O (kp [20,13,12,10,9,8,7,4,3,14] O) (Am (λa w=>∃(cn:Value) (co:List Al),IV B dn dp (268,[]) a w [(13,au),(10,F),(9,H),(8,vP G 0),(7,.bool A),(4,q8),(3,q1),(14,K),(12,cn)] (OS Ap 60 cn co::OS AM.int 3 K Q::Bx G 36 [vI c.1.Hour,ab,ac,ae,af,ag,ah]::OS BH 50 H c.2.1::OS AM.int 3 F c.2.2::L) λ_ _=>DH N j d A c Q co=some r) ?_ ?_)))
 ·refine A5 (λgx=>λa w=>∃(b2:Value) (ba:List Al) (bb:Int),IV B dn dp (268,[]) a w [(13,au),(10,F),(9,H),(8,vP G 0),(7,.bool A),(4,q8),(3,q1),(14,K),(12,b2),(20,vI bb)] (OS Ap 60 b2 ba::OS AM.int 3 K Q::Bx G 36 [vI c.1.Hour,ab,ac,ae,af,ag,ah]::OS BH 50 H c.2.1::OS AM.int 3 F c.2.2::L) λ_ _=>AH bb∧Bh N d (DH N j d A c Q) gx ba bb=some r) N ?_ ?_ ?_
  ·intro C D s t
   have gy:=gw.nil Ap 60
   exact⟨(vN),([]:List Al),0,_,_,s.sub (kp [13,10,9,8,7,4,3,14,12,20] O),t,gy,(CA.refl dn dp),(iq (n:=0) O),E⟩
  ·rintro C D ⟨_,_,_,_,_,_,_,_,_,_,E⟩
   rw[Bh] at E;cases E
  rintro gx C D ⟨b2,ba,bb,er,es,s,t,ai,dq,qu,E⟩
  refine Ac ?_ s t
  clear s t D C
  rw[Bh] at E
  refine AC (AI (AA O ?_))
  have cp:=c5.mono (a1.trans dq)
  refine Ae O cp D0 G2 O λqv k2=>Ao A9 ai.1 O k2 I3 O λqw k3=>An O k3 H9 O λqx=>Ar O (AN (kp [167,13,10,9,8,7,4,3,14,12,20] O) (AW O E (λk4 E=>?_) (λk4 E=>?_)))
  ·refine AQ (AC (Am (λa w=>∃(cq:Value) (cr:List Al),IV B er es (268,[]) a w [(13,au),(10,F),(9,H),(8,vP G 0),(7,.bool A),(4,q8),(3,q1),(14,K),(20,vI bb),(12,cq)] (OS Ap 60 cq cr::OS AM.int 3 K Q::Bx G 36 [vI c.1.Hour,ab,ac,ae,af,ag,ah]::OS BH 50 H c.2.1::OS AM.int 3 F c.2.2::L) λ_ _=>EB N bb (Bh N d (DH N j d A c Q) gx) cr=some r) ?_ ?_))
   ·refine AC (BZ (.inr ⟨mo,by kernel_rfl⟩) (Ae O cp D0 G2 O λqy k5=>Ao A9 ai.1 O k5 I3 O λq0 k7=>AA O ?_))
    obtain⟨q2,gz,E⟩:=bd E
    refine BE O O k7 H9 gz O λq3 k8=>Ae O k8 Ly Ll O λq4 k9=>Af A9 ai.1 O k9 Ag O λq5=>Ae O cp Aj.f_Hour HK O λq6 la=>Af A9 ai.1 O la Ag O λq7=>Bf O (AN (kp [178,13,10,9,8,7,4,3,14,12,20] O) (AW O E (λlb E=>?_) (λlb E=>?_)))
    ·refine D3 (AG 6 (AA O (Ae O cp D0 G2 O λq9 lc=>Ao A9 ai.1 O lc I3 O λrb le=>AA O ?_)))
     obtain⟨b3,g0,E⟩:=bd E
     refine BE O O le H9 g0 O λrd lf=>B8 A9 ai.1 O lf Kh (λe=>by cases e) O λre lg=>AF ?_
     obtain⟨rf,rfl,lh,li,et⟩:=Ap.ex lg
     obtain⟨g1,d8,rfl,rg⟩:=(et).len
     refine DY (cs:=[vI b3.At,vI b3.To,(.slice g1 b3.Part.length d8)]) NN O O O O O O O ai λrh ri g2 eu=>?_
     obtain⟨g3,E⟩:=Lr E
     refine OA (r:=Ap) (l:=ba) (xs:=([b3]:List Al)) O O NN O mh ⟨_,_,O,⟨_,O,lh,li,(et.mono' eu)⟩,O⟩ O O g3 O g2 (λ_=>(.tail .head)) λlj rj g4 ll=>?_
     have g5:=g4.drop .head
     refine AG 1 (AY O (AF (AZ (kp [12,13,10,9,8,7,4,3,14,20] O) (WF.nil (λC D s t=>?_)))))
     exact⟨lj,(ba++([b3]:List Al)),_,_,s.sub (kp [13,10,9,8,7,4,3,14,20,12] O),t,g5,(eu.trans ll),E⟩
    refine AQ (WF.nil (λC D s t=>?_))
    exact⟨b2,ba,_,_,s.sub (kp [13,10,9,8,7,4,3,14,20,12] O),t,ai,(CA.refl er es),E⟩
   rintro C D ⟨cq,cr,rk,rm,s,t,g6,lm,E⟩
   refine Ac ?_ s t
   clear s t D C
   rw[EB] at E
   refine BZ (.inl O) (AA O (Ai O (AK O (kp [20,13,10,9,8,7,4,3,14,12] O) (WF.nil (λC D s t=>?_)))))
   exact⟨cq,cr,(BD (bb+1)),_,_,s.sub (kp [13,10,9,8,7,4,3,14,12,20] O),t,g6,(dq.trans lm),(BK _),E⟩
  refine BC O (λC D s t=>?_)
  exact⟨b2,ba,_,_,s.sub (kp [13,10,9,8,7,4,3,14,12] O),t,ai,dq,E⟩
 rintro C D ⟨cn,co,dr,ds,s,t,g7,bc,E⟩
 refine Ac ?_ s t
 clear s t D C
 rw[DH] at E
 refine AC (AI (AK O (kp [21,13,10,9,8,7,4,3,14,12] O) (Am (λa w=>∃(dt:Value) (b4:List Al) (du:Value) (dv:List Int),IV B dr ds (268,[]) a w [(10,F),(8,vP G 0),(7,.bool A),(14,K),(12,dt),(13,du)] (OS Ap 60 dt b4::OS AM.int 3 K Q::Bx G 36 [vI c.1.Hour,ab,ac,ae,af,ag,ah]::OS AM.int 3 F c.2.2::L) λS' h'=>Sl S' h' AM.int du dv∧DG N A c Q b4 dv=some r) ?_ ?_)))
 ·refine A5 (λg8=>λa w=>∃(a2:Value) (a3:List Al) (be:Value) (bn:List Int) (ax:Int),IV B dr ds (268,[]) a w [(10,F),(9,H),(8,vP G 0),(7,.bool A),(4,q8),(3,q1),(14,K),(12,a2),(13,be),(21,vI ax)] (OS Ap 60 a2 a3::OS AM.int 3 K Q::Bx G 36 [vI c.1.Hour,ab,ac,ae,af,ag,ah]::OS BH 50 H c.2.1::OS AM.int 3 F c.2.2::L) λS' h'=>Sl S' h' AM.int be bn∧AH ax∧Bb N j d c (DG N A c Q) g8 a3 bn ax=some r) N ?_ ?_ ?_
  ·intro C D s t
   exact⟨cn,co,au,d.Out,0,_,_,s.sub (kp [10,9,8,7,4,3,14,12,13,21] O),t,g7,(CA.refl dr ds),(iz.mono' (a1.trans bc)),(iq (n:=0) O),E⟩
  ·rintro C D ⟨_,_,_,_,_,_,_,_,_,_,_,_,_,E⟩
   rw[Bb] at E;cases E
  rintro g8 C D ⟨a2,a3,be,bn,ax,a4,lo,s,t,bf,b5,ct,rn,E⟩
  refine Ac ?_ s t
  clear s t D C
  rw[Bb] at E
  refine AC (AI (AA O (AA O (Kc bf (mt (mt (mt mh))) O F9 O λro=>Ar O (AN (kp [190,10,9,8,7,4,3,14,12,13,21] O) (AW O E (λlp E=>?_) (λlp E=>?_)))))))
  ·refine AQ (AC (Am (λa w=>∃(cu:Value) (cv:List Al) (cw:Value) (cx:List Int),IV B a4 lo (268,[]) a w [(10,F),(9,H),(8,vP G 0),(7,.bool A),(4,q8),(3,q1),(14,K),(21,vI ax),(12,cu),(13,cw)] (OS Ap 60 cu cv::OS AM.int 3 K Q::Bx G 36 [vI c.1.Hour,ab,ac,ae,af,ag,ah]::OS BH 50 H c.2.1::OS AM.int 3 F c.2.2::L) λS' h'=>Sl S' h' AM.int cw cx∧DF N ax (Bb N j d c (DG N A c Q) g8) cv cx=some r) ?_ ?_))
   ·refine WF.sl (AG 4 (AA O (AA O ?_)))
    obtain⟨rq,g9,E⟩:=bd E
    refine A8 bf (mt (mt (mt mh))) O O F9 g9 O λrr ha=>?_
    obtain⟨g,hc,E⟩:=bd E
    have lq:=bf.epAt (mt (mt (mt mh))) hc E9.id ha
    refine B8 A9 (λ_ x=>x) O lq VX (λe=>by cases e) O λrs lr=>AF (Cp bT O bf λdw rt hd bg=>?_)
    obtain⟨cy,rfl,ls,lt,ev,lu,b6⟩:=BH.ex (lr.mono bg)
    refine G7 (vs:=[vI g.Hour,vI g.From,vI g.To,vI g.Way,cy]) (cs':=[vI g.Hour,vI g.From,vI g.To,vI g.Way,cy]) O O O (AE O (AE O (AE O (AE O (AE b6.one EH))))) VX O hd .head O O λru ak ar=>AZ (kp [22,10,9,8,7,4,3,14,12,13,21] O) (AC (AC (Bq (.inr ⟨mo,by kernel_rfl⟩) ak (AD YB O (AS Bd ak O mh O Ag O ?_)))))
    have ew:=c5.mono (a1.trans (bc.trans (b5.trans (bg.trans ar))))
    refine Ae O ew Aj.f_Hour HK O λrv lv=>Af Bd ak.1 O lv Ag O λrx=>Bt O (AA O ?_)
    obtain⟨ey,am,E⟩:=bd E
    refine AV 5 207 (.bool ey) ?_ ?_
    ·cases ez:(decide (g.Hour≠d.Hour))
     ·have am:=F5 ez am
      refine AB O (AD Ha O (AB O (AS Bd ak O mh O BW O (AB O ?_))))
      obtain⟨ry,he,am⟩:=bd am
      refine CY O O O ZJ O (λh' o=>KT (St.all h') ((b6.mono' ar).mono' (o.all ak.1)) he) λlw=>?_
      have rz:=lw
      refine AB O (BL O (AJ O ?_))
      cases am
      exact AU O
     have am:=Fy ez am
     cases am
     exact Aa O O
    refine AA O ?_
    obtain⟨lx,an,E⟩:=bd E
    refine AV 14 222 (.bool lx) ?_ ?_
    ·cases e0:ey
     ·have an:=F5 e0 an
      refine AB O (AA O (AB O (Bf O (AB O (AA O ?_)))))
      obtain⟨ly,Y,an⟩:=bd an
      refine AV 10 221 (.bool ly) ?_ ?_
      ·cases e1:(decide (0<ax))
       ·have Y:=F5 e1 Y
        cases Y
        exact Aa O O
       have Y:=Fy e1 Y
       refine AB O (AA O (AB O (AA O (AB O (Ck O (AB O ?_))))))
       obtain⟨r0,hg,Y⟩:=bd Y
       refine A8 ak (mt (mt (mt (mt mh)))) O O F9 hg O λr1 hi=>AB O (Fe O hi PP O λr2 hj=>AB O ?_)
       obtain⟨r3,hk,Y⟩:=bd Y
       have lz:=ak.epAt (mt (mt (mt (mt mh)))) hk Ak.f_From hj
       refine Af Bd (λ_ x=>x) O lz Ag O λr4=>AB O (AD PP O (AB O (AS Bd ak O mh O Ag O (AB O (Bf O (AB O (AJ O ?_)))))))
       cases Y
       exact AU O
      refine AJ O ?_
      cases an
      exact AU O
     have an:=Fy e0 an
     cases an
     exact Aa O O
    refine BM (kp [222,22,10,9,8,7,4,3,14,12,13,21] O) λdx u ay=>AW O E (λl0 E=>?_) (λl0 E=>?_)
    ·refine AI (AK O (kp [6] O) (Ad (λC D s t=>?_)))
     have hl:=u.sel [] 6 O
     cases E
     exact Dx s t O O (e5.trans (c0.trans (c1.trans (ca.trans (cb.trans (c2.trans (cc.trans (bh.trans (a1.trans (bc.trans (b5.trans (bg.trans (ar.trans ay))))))))))))) ⟨O,hl⟩
    refine AQ (AC (AI (AD G1 O (AS A9 u O mh O Ag O (BL O (AN (kp [225,22,10,9,8,7,4,3,14,12,13,21] O) (AW O E (λl1 E=>?_) (λl1 E=>?_))))))))
    ·refine BC O (λC D s t=>?_)
     have hm:=u.sel [1,1,1,1,1] 1 O
     have dy:=bg.trans (ar.trans ay)
     exact⟨a2,a3,be,bn,_,_,s.sub (kp [10,9,8,7,4,3,14,21,12,13] O),t,hm,dy,(ct.mono' dy),E⟩
    refine AQ (AC (AI (AD Rh O (AS A9 u O mh O Ag O (Ar O (AN (kp [228,22,10,9,8,7,4,3,14,12,13,21] O) (AW O E (λl2 E=>?_) (λl2 E=>?_))))))))
    ·refine WF.sl (AG 3 (AA O (AD Ha O (AS A9 u O mh O BW O (AF ?_)))))
     have dz:=bg.trans (ar.trans ay)
     obtain⟨l3,hn,E⟩:=bd E
     refine BX O O O Qt O u (Ip (St.all _) ((ct.mono' dz).mono (λb hb=>u.1 b hb) (λ_ _=>rfl)) ((b6.mono' (ar.trans ay)).mono (λb hb=>u.1 b hb) (λ_ _=>rfl)) hn) λl4 r5 r6 n0 l5 l6 p=>?_
     have ho:=p
     have d0:=u.join l6 ho ⟨OS.flat (λ{_ _ _ _ _ _} k=>k),trivial⟩
     simp only[List.cons_append,List.nil_append] at d0
     refine AG 1 (AY O (AF (AZ (kp [13,10,9,8,7,4,3,14,12,21] O) (BC O (λC D s t=>?_)))))
     obtain⟨r7,hp,l7,l8⟩:=d0.pubs .head
     have hq:=hp.sel [1,1,1,1,1] 1 O
     exact⟨a2,a3,l4,l3,_,_,s.sub (kp [10,9,8,7,4,3,14,21,12,13] O),t,hq,(dz.trans (l5.trans l7)),l8,E⟩
    refine AQ ?_
    obtain⟨V,ht,E⟩:=bd E
    refine Mk (m:=[(22,vP dw 0),(10,F),(9,H),(8,vP G 0),(7,.bool A),(4,q8),(3,q1),(14,K),(12,a2),(13,be),(21,vI ax)]) 14 (λi v hh=>match i with|0=>v=a2|1=>Pt a4 hh AM.int v d.Hour|2=>v=vI d.Hour∧AH d.Hour|3=>v=vI (BD (d.Hour+1))∧AH (BD (d.Hour+1))|4=>Rd a4 hh B1 v j|5=>v= .agg #[vI g.Hour,vI g.From,vI g.To,vI g.Way,cy]∧AH g.Hour∧AH g.From∧AH g.To∧AH g.Way|6=>v=vI V∧AH V|7=>v=vI (BD ((BD (d.Hour+1))+V))∧AH (BD ((BD (d.Hour+1))+V))|8=>v=vP dw 2|9=>v=vI g.To∧AH g.To|10=>v=vP dw 4|11=>Sl a4 hh AM.int v g.Part|12=>Rd a4 hh Ap v (⟨(BD ((BD (d.Hour+1))+V)),g.To,g.Part⟩:Al)|13=>Sl (SN a4 dx hh) hh Ap v ([(⟨(BD ((BD (d.Hour+1))+V)),g.To,g.Part⟩:Al)]:List Al)∧∃ad,v= .slice (some ad) 1 1|_=>False) [[],[],[(1,234)],[(2,235)],[],[],[(4,237),(5,238)],[(3,236),(6,239)],[],[(8,241)],[],[(10,243)],[(7,240),(9,242),(11,244)],[(12,245)]] [(0,233),(13,246)] mo (by kernel_rfl) [22,10,9,8,7,4,3,14,12,13,21] O (by kernel_rfl) (by kernel_rfl) (by kernel_rfl) (kp [22,10,9,8,7,4,3,14,12,13,21] O) (λi v h1 h2 o1 o2 hr=>?_) ?_ ?_
    ·match i,hr with
      |0,hr|2,hr|3,hr|5,hr|6,hr|7,hr|8,hr|9,hr|10,hr=>exact hr
      |1,hr=>exact Nd.mono hr (o2.ext λb hb=>Nat.lt_of_lt_of_le (u.1 b hb) o1.siz)
      |4,hr|12,hr=>exact Rd.mono hr (o2.ext λb hb=>Nat.lt_of_lt_of_le (u.1 b hb) o1.siz)
      |11,hr=>exact Sl.mono' hr (o2.ext λb hb=>Nat.lt_of_lt_of_le (u.1 b hb) o1.siz)
      |13,hr=>exact⟨Sl.mono' hr.1 (SN.mono u.1 o1 o2),hr.2⟩
      |_+14,hr=>exact hr.elim
    ·refine A3.cons O (λ_ _ _=>AG 1 (AA O (AO O))) (A3.cons O (λ_ _ o=>AG 1 (Ae O (ew.mono (ay.trans (o.ext u.1))) Aj.f_Hour HK O λr8 l9=>AO l9)) (A3.cons O (λ_ _ o ma d1=>by have d1:Pt _ _ AM.int ma d.Hour:=d1;exact AG 1 (Af A9 (o.st u).1 O d1 Ag O λmb=>AO ⟨O,mb⟩)) (A3.cons O (λ_ _ _ _ mc=>by obtain⟨rfl,r9⟩:=mc;exact AG 1 (Ai O (AO ⟨O,(BK _)⟩))) (A3.cons O (λ_ _ o=>AG 1 (B8 A9 (o.st u).1 O (ff.mono (c2.trans (cc.trans (bh.trans (a1.trans (bc.trans (b5.trans (bg.trans (ar.trans (ay.trans (o.ext u.1))))))))))) G6 (λe=>by cases e) O λsa md=>AO md)) (A3.cons O (λ_ _ o=>AG 1 (Db (vs:=[vI g.Hour,vI g.From,vI g.To,vI g.Way,cy]) A9 (o.st u) O mh O O VX O O (AO ⟨O,ls,lt,ev,lu⟩))) ?_)))))
     refine A3.cons O ?_ ?_
     ·intro mq hh o
      intro me b7 sc mf
      have hsN:=SN.st u o
      have b7:=Rd.mono (S':=(SN a4 dx hh)) b7 ⟨λb hb=> .inl hb,λ_ _=>rfl,Nat.le_refl _⟩
      have b7:Rd _ _ B1 me j:=b7
      obtain⟨rfl,mg,mi,mj,ml⟩:=mf
      refine BX O O O fX O hsN (MD (St.all _) (b7.mono ⟨λb hb=>hsN.1 b hb,λ_ _=>rfl,Nat.le_refl _⟩) (BH.mk (x:=g) mg mi mj ml ((b6.mono' (ar.trans (ay.trans (SN.ext u.1 o)))).mono (λb hb=>hsN.1 b hb) (λ_ _=>rfl))) ht) λsd se sf n2 sg e2 p=>?_
      obtain⟨rfl,mm,n4⟩:=p
      exact Cm ⟨e2.siz,λb hb=>e2.same b hb⟩ ⟨O,mm⟩
     refine A3.cons O (λ_ _ _=>by intro sh mn si mp;obtain ⟨rfl,sj⟩:=mn;obtain ⟨rfl,sk⟩:=mp;exact AG 1 (Ai O (AO ⟨O,(BK _)⟩))) (A3.cons O (λ_ _ _=>AG 1 (AD Rh O (AO O))) (A3.cons O (λ_ _ o _ mr=>by cases mr;exact AG 1 (AS A9 (o.st u) O mh O Ag O (AO ⟨O,ev⟩))) (A3.cons O (λ_ _ _=>AG 1 (AD Ha O (AO O))) (A3.cons O (λ_ _ o _ ms=>by cases ms;exact AG 1 (AS A9 (o.st u) O mh O BW O (AO (b6.mono' (ar.trans (ay.trans (o.ext u.1))))))) ?_))))
     refine A3.cons O ?_ ?_
     ·intro mq hh o
      intro sm mu sn mv mw cz
      have hsN:=o.st u
      obtain⟨rfl,mx⟩:=mu
      obtain⟨rfl,my⟩:=mv
      have cz:Sl _ _ AM.int mw g.Part:=cz
      refine AG 1 ?_
      obtain⟨hu,d9,rfl,so⟩:=(cz).len
      exact HA (cs:=[vI (BD ((BD (d.Hour+1))+V)),vI g.To,(.slice hu g.Part.length d9)]) Vl O O O (AO (Ap.mk (x:=(⟨(BD ((BD (d.Hour+1))+V)),g.To,g.Part⟩:Al)) mx my cz))
     refine A3.cons O ?_ ?_
     ·intro mq hh o
      intro mz b8
      have hsN:=SN.st u o
      have b8:=Rd.mono (S':=(SN a4 dx hh)) b8 ⟨λb hb=> .inl hb,λ_ _=>rfl,Nat.le_refl _⟩
      have b8:Rd _ _ Ap mz (⟨(BD ((BD (d.Hour+1))+V)),g.To,g.Part⟩:Al):=b8
      have hsF:=hsN.fz
      obtain⟨sp,rfl,m0,m1,e3⟩:=Ap.ex b8
      obtain⟨hv,ea,rfl,sq⟩:=(e3).len
      refine DY (cs:=[vI ((⟨(BD ((BD (d.Hour+1))+V)),g.To,g.Part⟩:Al).At),vI ((⟨(BD ((BD (d.Hour+1))+V)),g.To,g.Part⟩:Al).To),(.slice hv ((⟨(BD ((BD (d.Hour+1))+V)),g.To,g.Part⟩:Al).Part).length ea)]) NN O O O O O O O hsF λss su hx e4=>?_
      have m2:=e3.mono' e4
      have hy:=hx.bxos (r:=Ap) (l:=([(⟨(BD ((BD (d.Hour+1))+V)),g.To,g.Part⟩:Al)]:List Al)) .head ⟨_,_,O,⟨_,O,m0,m1,m2⟩,O⟩ (by simp [maxLen])
      obtain⟨sv,hz,m3,m4⟩:=hy.pubs .head
      have d2:=Fz.done o (e4.trans m3) hz
      exact Cm d2.1 ⟨Sl.mono' m4 d2.2,_,O⟩
     exact trivial
    intro sw e6 sx m5 sy d3
    have h0:=SN.st u e6
    cases m5
    obtain⟨d3,n5,rfl⟩:=d3
    obtain⟨h4,E⟩:=Lr E
    refine JJ (r:=Ap) (l:=a3) (xs:=([(⟨(BD ((BD (d.Hour+1))+V)),g.To,g.Part⟩:Al)]:List Al)) O O NN O (Sl.src d3) O h4 O h0 (λ_=>(.tail .head)) λm6 sz h5 m7=>AG 1 (AY O (AF (AZ (kp [12,10,9,8,7,4,3,14,13,21] O) (WF.nil (λC D s t=>?_)))))
    have h6:=h5.sel [1,1,1,1,1] 1 O
    have d4:=bg.trans (ar.trans (ay.trans ((SN.ext u.1 e6).trans m7)))
    exact⟨m6,(a3++([(⟨(BD ((BD (d.Hour+1))+V)),g.To,g.Part⟩:Al)]:List Al)),be,bn,_,_,s.sub (kp [10,9,8,7,4,3,14,21,12,13] O),t,h6,d4,(ct.mono' d4),E⟩
   rintro C D ⟨cu,cv,cw,cx,s0,s1,s,t,h7,m8,m9,E⟩
   refine Ac ?_ s t
   clear s t D C
   rw[DF] at E
   refine BZ (.inl O) (AA O (Ai O (AK O (kp [21,10,9,8,7,4,3,14,12,13] O) (WF.nil (λC D s t=>?_)))))
   exact⟨cu,cv,cw,cx,(BD (ax+1)),_,_,s.sub (kp [10,9,8,7,4,3,14,12,13,21] O),t,h7,(b5.trans m8),m9,(BK _),E⟩
  refine BC O (λC D s t=>?_)
  have h8:=bf.sel [0,0,0,1] 1 O
  exact⟨a2,a3,be,bn,_,_,s.sub (kp [10,8,7,14,12,13] O),t,h8,b5,ct,E⟩
 rintro C D ⟨dt,b4,du,dv,s2,s3,s,t,Z,d5,na,E⟩
 refine Ac ?_ s t
 clear s t D C
 rw[DG] at E
 refine AC (Bq (.inl O) Z (AA O (AA O ?_)))
 obtain⟨e7,ao,E⟩:=bd E
 refine AV 4 253 (.bool e7) ?_ ?_
 ·cases e8:A
  ·have ao:=F5 e8 ao
   cases ao
   exact Aa O O
  have ao:=Fy e8 ao
  refine AB O (AA O (AB O (AA O (AB O ?_))))
  obtain⟨s4,h9,ao⟩:=bd ao
  refine A6 O O O IS O (λh' o=>BA (St.all h') ((Z.oslAll (mt (mt (mt mh)))).mono (λb hb=>Nat.lt_of_lt_of_le hb o.siz) (λb hb=>o.same b hb)) ((Z.oslAll (mt mh)).mono (λb hb=>Nat.lt_of_lt_of_le hb o.siz) (λb hb=>o.same b hb)) h9) (AJ O ?_)
  cases ao
  exact AU O
 refine AA O ?_
 obtain⟨e9,ap,E⟩:=bd E
 refine AV 5 259 (.bool e9) ?_ ?_
 ·cases fb:e7
  ·have ap:=F5 fb ap
   cases ap
   exact Aa O O
  have ap:=Fy fb ap
  refine AB O (AA O (AB O (AD Iq O (AB O (AS Bd Z O (mt (mt mh)) O BW O (AB O ?_))))))
  obtain⟨s5,ia,ap⟩:=bd ap
  refine A6 O O O IS O (λh' o=>BA (St.all h') (na.mono' (o.all Z.1)) ((iy.mono' (bh.trans (a1.trans (bc.trans d5)))).mono' (o.all Z.1)) ia) (AJ O ?_)
  cases ap
  exact AU O
 refine AA O ?_
 obtain⟨nb,aq,E⟩:=bd E
 refine AV 7 267 (.bool nb) ?_ ?_
 ·cases fc:e9
  ·have aq:=F5 fc aq
   cases aq
   exact Aa O O
  have aq:=Fy fc aq
  refine AB O (AA O (AB O ?_))
  obtain⟨ib,eb,rfl,s6⟩:=Z.oslen mh
  refine HA (cs:=[vI 0,vN,vN,(.slice ib b4.length eb),vN,vN,vN]) Vm O O O (AB O (AD G2 O (AB O (AS Bd Z O (mt (mt mh)) O I3 O (AB O ?_)))))
  have fd:=iw.mono' (bh.trans (a1.trans (bc.trans d5)))
  obtain⟨ic,ec,rfl,s7⟩:=(fd).len
  refine HA (cs:=[vI 0,vN,vN,(.slice ic c.1.Queue.length ec),vN,vN,vN]) Vm O O O (AB O ?_)
  obtain⟨s8,ie,aq⟩:=bd aq
  refine A6 O O O W6 O (λh' o=>LA (St.all h') (CO.mk (x:=(⟨0,[],[],b4,[],[],[]⟩:Aj)) (iq (n:=0) O) (.inl ⟨O,O⟩) (.inl ⟨O,O⟩) ((Z.oslAll mh).mono (λb hb=>Nat.lt_of_lt_of_le hb o.siz) (λb hb=>o.same b hb)) (.inl ⟨O,O⟩) (.inl ⟨O,O⟩) (.inl ⟨O,O⟩)) (CO.mk (x:=(⟨0,[],[],c.1.Queue,[],[],[]⟩:Aj)) (iq (n:=0) O) (.inl ⟨O,O⟩) (.inl ⟨O,O⟩) (fd.mono' (o.all Z.1)) (.inl ⟨O,O⟩) (.inl ⟨O,O⟩) (.inl ⟨O,O⟩)) ie) (AJ O ?_)
  cases aq
  exact AU O
 refine AY O (BM (kp [6] O) λs9 ig nc=>Ad (λC D s t=>?_))
 have ih:=ig.sel [] 4 O
 cases E
 exact Dx s t O O (e5.trans (c0.trans (c1.trans (ca.trans (cb.trans (c2.trans (cc.trans (bh.trans (a1.trans (bc.trans (d5.trans nc))))))))))) ⟨O,ih⟩
end Go.Proofs.YtblcgjadhemlbaaGreat
