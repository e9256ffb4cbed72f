import Derived.Test.YtibidnaedddfdaaGreatDWalk4
namespace Go.Proofs.YtibidnaedddfdaaGreat
set_option linter.all false
open Go.RowKit
open Go.Proofs.Tryz
set_option maxRecDepth 10000
set_option maxHeartbeats 2000000
variable {N:Nat}{S:Nat→Prop}{L:List HP}{h:BB}
def Lf (hs:St S L h) {am:Value}{s:AU}(bh:Rd S h Ch am s) {r:Bool}(E:EG N s=some r):
 Ct prog 41 #[am] S h (λv S' h'=>v= .bool r∧St S' (L) h'):=by
 refine BO (l:=[am]) 128 func41 O ntmps41 O λB=>?_
 rw[EG] at E
 refine WF.sl (BM O bh (λe=>by cases e) O hs λq1 S2 h3 d6 e5 k6=>A5 1 (A4 O (A6 (AS (kp [1] O) (WF.sl (A5 3 (AV O k6 CC En O λq7 k8=>BR BX d6.1 O k8 HD O λv9 gm=>BJ O gm Ga O λj8=>A6 ?_)))))))
 obtain⟨d7,E⟩:=TW E
 refine Pr (r:=BQ) (zx:=0) Wb O ⟨O,by unfold AD;omega⟩ O O d7 O O d6 λt b6 bm b7=>A5 1 (A4 O (A6 (AS (kp [3,1] O) (AC (AE ?_)))))
 have d8:=k6.mono b7
 refine AV O d8 CC En O λj9 gn=>BR BX bm.1 O gn HD O λgp d9=>BJ O d9 Ga O λka=>AA O (AL (kp [17,16,15,3,1] O) (BG (λa w=>∃(bi:List Int),IV B S2 b6 (128,[]) a w [(3,t),(1,q1)] (OS BQ 3 t bi::L) λ_ _=>CF N s bi=some r) ?_ ?_))
 ·refine Bt (λn1=>λa w=>∃(ao:Int) (ay:List Int),IV B S2 b6 (128,[]) a w [(16,vI (↑s.D.length:Int)),(15,gp),(3,t),(1,q1),(17,vI ao)] (OS BQ 3 t ay::L) λ_ _=>AD ao∧CV N s (CF N s) n1 ao ay=some r) N ?_ ?_ ?_
  ·intro y z g j
   exact⟨0,(List.replicate ((↑s.D.length:Int):Int).toNat (0:Int)),_,_,g.sub (kp [16,15,3,1,17] O),j,bm,(Cm.refl S2 b6),(iq (n:=0) O),E⟩
  ·rintro y z ⟨_,_,_,_,_,_,_,_,_,E⟩
   rw[CV] at E;cases E
  rintro n1 y z ⟨ao,ay,kb,kc,g,j,a1,b8,kd,E⟩
  refine A8 ?_ g j
  clear g j z y
  rw[CV] at E
  refine AE (BE O (AL (kp [18,16,15,3,1,17] O) (AC (AW O E (λgq E=>?_) (λgq E=>?_)))))
  ·refine AQ (AC (BW (WF.sl (A5 3 (AA O ?_)))))
   obtain⟨K,ea,E⟩:=bd E
   refine B6 O O (d9.mono' b8) Ga ea O λke gr=>BP BX a1.1 O gr KO (λe=>by cases e) O λkf gs=>A6 (CX QG O a1 λkg kh eb ec=>A5 1 (A4 O (A6 ?_)))
   obtain⟨ed,ee,ef,rfl,ki,kj,kk,kl,gu,gv,gw,gx,km,kn,ko,gy⟩:=Cb.ex (gs.mono ec)
   refine IR (vs:=[.string K.J,vI K.C,vI K.Aj,vI K.Ag,ed,ee,vI K.N,vI K.H,vI K.Ao,vI K.V,vI K.Ax,ef]) (cs':=[.string K.J,vI K.C,vI K.Aj,vI K.Ag,ed,ee,vI K.N,vI K.H,vI K.Ao,vI K.V,vI K.Ax,ef]) O O O (AG O (AG O (AG O (AG O (AG gu.one (AG gv.one (AG O (AG O (AG O (AG O (AG O (AG gy.one GJ)))))))))))) KO O eb .head O O λkq a2 gz=>AS (kp [4,5,16,15,3,1,17] O) (Gf (A5 6 (AA O (AA O (AF Q9 O (AT BX a2 O mh O AZ O (AF KR O (AT BX a2 O mh O AZ O (A6 ?_)))))))))
   obtain⟨eg,eh,E⟩:=bd E
   refine Ea O O O Qb O a2 (Gq (St.all _) gw gx eh) λkr ks kt bn g0 ku p=>?_
   obtain⟨rfl,g1,g9⟩:=p
   refine A5 1 ?_
   obtain⟨kv,ei,E⟩:=bd E
   refine DN bn (mt mh) O O Hf ei O λkw ej=>A6 ?_
   obtain⟨g2,ek,E⟩:=bd E
   refine IB (r:=BQ) (l:=ay) (i:=ao) (x:=g2) O O (⟨_,O,O,g1⟩:Rd _ _ BQ _ eg) ej ek N3.id AZ (λ_=>rfl) bn (.tail .head) λkx el g3=>AS (kp [16,15,3,1,17] O) (B0 (CL (.inl O) (BD O (AA O (AL (kp [17,16,15,3,1] O) (WF.nil (λy z g j=>?_)))))))
   have em:=el.sel [1] 1 O
   exact⟨(B8 (ao+1)),(upd ay ao eg),_,_,g.sub (kp [16,15,3,1,17] O),j,em,(b8.trans (ec.trans (gz.trans (g0.trans g3)))),(CJ _),E⟩
  refine WF.exit O (λy z g j=>?_)
  exact⟨ay,_,_,g.sub (kp [3,1] O),j,a1,b8,E⟩
 rintro y z ⟨bi,b9,ca,g,j,bo,cb,E⟩
 refine A8 ?_ g j
 clear g j z y
 rw[CF] at E
 refine AC (AE (AV O (d8.mono cb) AU.f_Links Gu O λky g4=>BR BX bo.1 O g4 JP O λa3 en=>BJ O en Ht O λkz=>AA O (AL (kp [34,33,32,3] O) (BG (λa w=>∃(az:List Int),IV B b9 ca (128,[]) a w [(3,t)] (OS BQ 3 t az::L) λ_ _=>B4 N az=some r) ?_ ?_))))
 ·refine Bt (λn3=>λa w=>∃(af:Int) (M:List Int),IV B b9 ca (128,[]) a w [(33,vI (↑s.F.length:Int)),(32,a3),(3,t),(34,vI af)] (OS BQ 3 t M::L) λ_ _=>AD af∧BI N s (B4 N) n3 af M=some r) N ?_ ?_ ?_
  ·intro y z g j
   exact⟨0,bi,_,_,g.sub (kp [33,32,3,34] O),j,bo,(Cm.refl b9 ca),(iq (n:=0) O),E⟩
  ·rintro y z ⟨_,_,_,_,_,_,_,_,_,E⟩
   rw[BI] at E;cases E
  rintro n3 y z ⟨af,M,u,eo,g,j,ap,a4,k0,E⟩
  refine A8 ?_ g j
  clear g j z y
  rw[BI] at E
  refine AE (BE O (AL (kp [35,33,32,3,34] O) (AC (AW O E (λep E=>?_) (λep E=>?_)))))
  ·refine AQ (AC (BG (λa w=>∃(aq:List Int),IV B u eo (128,[]) a w [(33,vI (↑s.F.length:Int)),(32,a3),(3,t),(34,vI af)] (OS BQ 3 t aq::L) λ_ _=>B3 N af (BI N s (B4 N) n3) aq=some r) ?_ ?_))
   ·refine WF.sl (A5 2 ?_)
    obtain⟨c,cc,E⟩:=bd E
    refine B6 O O (en.mono' a4) Ht cc O λha eq=>BP BX ap.1 O eq FC (λe=>by cases e) O λhc er=>A6 (CX Mx O ap λW hd cd ah=>?_)
    obtain⟨ar,au,av,rfl,he,hg,es,hi,bp,bq,br,hj,hk,hl,hm,bs,bt,hn,ho,bu,bv,hp⟩:=CI.ex (er.mono ah)
    refine IR (vs:=[.string c.J,vI c.C,vI c.I,vI c.E,ar,au,av,vI c.Q,vI c.Ab,vI c.Ad,vI c.O,vI c.N,vI c.H,vI c.Ak,vI c.Ae,vI c.Aa,vI c.Y,vI c.V]) (cs':=[.string c.J,vI c.C,vI c.I,vI c.E,ar,au,av,vI c.Q,vI c.Ab,vI c.Ad,vI c.O,vI c.N,vI c.H,vI c.Ak,vI c.Ae,vI c.Aa,vI c.Y,vI c.V]) O O O (AG O (AG O (AG O (AG O (AG bp.one (AG bq.one (AG br.one (AG O (AG O (AG O (AG O (AG O (AG O (AG O (AG O (AG O (AG O (AG O GJ)))))))))))))))))) FC O cd .head O O λZ d ab=>AS (kp [7,33,32,3,34] O) (AE (AF E6 O (AT BX d O mh O AZ O (AL (kp [39,7,33,32,3,34] O) (BW (AE (CR O (AJ O (kp [40,39,7,33,32,3,34] O) (AW O E (λet E=>?_) (λet E=>?_))))))))))
    ·refine AC ?_
     obtain⟨hq,ce,E⟩:=bd E
     obtain⟨ac,cf,E⟩:=bd E
     obtain⟨ae,cg,E⟩:=bd E
     obtain⟨ht,ch,E⟩:=bd E
     refine Sm (m:=[(7,vP W 0),(33,vI (↑s.F.length:Int)),(32,a3),(3,t),(34,vI af)]) 17 (λi v hh=>match i with|0=>v=t|1=>v=vP W 2|2=>v=vI c.I∧AD c.I|3=>EP t (c.I.toNat*(BQ).sz+0) v|4=>v=vI ac∧AD ac|5=>v=vP W 4|6=>Sl u hh CM v c.Af|7=>v=vP W 5|8=>v=vP W 5|9=>Sl u hh CM v c.U.B|10=>v=vP W 5|11=>v=vP W 6|12=>Sl u hh CM v c.U.A|13=>Sl (SN u Z hh) hh (B7.sl CM) v ([c.Af,c.U.B,c.U.A]:List (List BC))∧∃ad,v= .slice (some ad) 3 3|14=>v=vI ae∧AD ae|15=>v=vI (B8 (ac+ae))∧AD (B8 (ac+ae))|16=>EP t (c.I.toNat*(BQ).sz+0) v|_=>False) [[],[],[(1,43)],[(0,42),(2,44)],[(3,45)],[],[(5,47)],[],[(7,49)],[(8,50)],[],[(10,52)],[(11,53)],[(6,48),(9,51),(12,54)],[(13,55)],[(4,46),(14,56)],[(0,42),(2,44)]] [(15,57),(16,58)] mo (by kernel_rfl) [7,33,32,3,34] O (by kernel_rfl) (by kernel_rfl) (by kernel_rfl) (kp [7,33,32,3,34] O) (λi v h1 h2 o1 o2 hr=>?_) ?_ ?_
     ·match i,hr with
       |0,hr|1,hr|2,hr|3,hr|4,hr|5,hr|7,hr|8,hr|10,hr|11,hr|14,hr|15,hr|16,hr=>exact hr
       |6,hr|9,hr|12,hr=>exact Sl.mono' hr (o2.ext λb hb=>iY (d.1 b hb) o1.siz)
       |13,hr=>exact⟨Sl.mono' hr.1 (SN.mono d.1 o1 o2),hr.2⟩
       |_+17,hr=>exact hr.elim
     ·refine DU.cons O (λ_ _ _=>A5 1 (AA O (BF O))) (DU.cons O (λ_ _ _=>A5 1 (AF H1 O (BF O))) (DU.cons O (λ_ _ o _ eu=>by cases eu;exact A5 1 (AT BX (o.st d) O mh O AZ O (BF ⟨O,es⟩))) (DU.cons O (λ_ _ o=>by intro hu ev hv ew;cases ev;obtain ⟨rfl,hx⟩:=ew;exact A5 1 (DN (o.st d) (mt mh) O O Hf ce O λhy ci=>BF ci)) ?_)))
      refine DU.cons O ?_ ?_
      ·intro mq hh o
       intro hz ey
       have a0:=o.st d
       refine A5 1 ?_
       have ez:=a0.epAt (mt mh) cf Fm.id ey
       exact AY BX (λ_ x=>x) O ez AZ O λe0=>BF ⟨O,e0⟩
      refine DU.cons O (λ_ _ _=>A5 1 (AF L3 O (BF O))) (DU.cons O (λ_ _ o _ e1=>by cases e1;exact A5 1 (AT BX (o.st d) O mh O Hs O (BF (bp.mono' (ab.trans (o.ext d.1)))))) (DU.cons O (λ_ _ _=>A5 1 (AF IM O (BF O))) (DU.cons O (λ_ _ _ _ e2=>by cases e2;exact A5 1 (AF L5 O (BF O))) (DU.cons O (λ_ _ o _ e3=>by cases e3;exact A5 1 (AT BX (o.st d) O mh O Hs O (BF (bq.mono' (ab.trans (o.ext d.1)))))) (DU.cons O (λ_ _ _=>A5 1 (AF IM O (BF O))) (DU.cons O (λ_ _ _ _ e4=>by cases e4;exact A5 1 (AF L4 O (BF O))) (DU.cons O (λ_ _ o _ e6=>by cases e6;exact A5 1 (AT BX (o.st d) O mh O Hs O (BF (br.mono' (ab.trans (o.ext d.1)))))) ?_)))))))
      refine DU.cons O ?_ ?_
      ·intro mq hh o
       intro e7 ai e8 aj e9 ak
       have a0:=SN.st d o
       have ai:=Sl.mono' (S':=(SN u Z hh)) ai ⟨λb hb=> .inl hb,λ_ _=>rfl,jB _⟩
       have ai:Sl _ _ CM e7 c.Af:=ai
       have aj:=Sl.mono' (S':=(SN u Z hh)) aj ⟨λb hb=> .inl hb,λ_ _=>rfl,jB _⟩
       have aj:Sl _ _ CM e8 c.U.B:=aj
       have ak:=Sl.mono' (S':=(SN u Z hh)) ak ⟨λb hb=> .inl hb,λ_ _=>rfl,jB _⟩
       have ak:Sl _ _ CM e9 c.U.A:=ak
       have g5:=a0.fz
       obtain⟨cj,bj,rfl,h0⟩:=(ai).len
       obtain⟨ck,bk,rfl,h4⟩:=(aj).len
       obtain⟨cl,bl,rfl,h5⟩:=(ak).len
       refine JF (cs:=[(.slice cj c.Af.length bj),(.slice ck c.U.B.length bk),(.slice cl c.U.A.length bl)]) Zv O O O O O O O g5 λh6 h7 cm aw=>?_
       have fb:=ak.mono' aw
       have fc:=aj.mono' aw
       have fd:=ai.mono' aw
       have cn:=cm.bxos (r:=(B7.sl CM)) (l:=([c.Af,c.U.B,c.U.A]:List (List BC))) .head ⟨_,_,O,⟨_,O,fd⟩,⟨_,_,O,⟨_,O,fc⟩,⟨_,_,O,⟨_,O,fb⟩,O⟩⟩⟩ (by simp [maxLen])
       obtain⟨h8,co,fe,ff⟩:=cn.pubs .head
       have a5:=Fz.done o (aw.trans fe) co
       exact GB a5.1 ⟨Sl.mono' ff a5.2,_,O⟩
      refine DU.cons O ?_ ?_
      ·intro mq hh o
       intro h9 a6
       have a0:=SN.st d o
       obtain⟨a6,g6,rfl⟩:=a6
       refine Ea O O O dY O a0 (NB (St.all _) (a6.mono (λb hb=>a0.1 b hb) (λ_ _=>rfl)) cg) λia ib ic g7 ie bw p=>?_
       obtain⟨rfl,fg,g8⟩:=p
       exact GB ⟨bw.siz,λb hb=>bw.same b hb⟩ ⟨O,fg⟩
      exact DU.cons O (λ_ _ _=>by intro ig fh ih fi;obtain ⟨rfl,ii⟩:=fh;obtain ⟨rfl,ij⟩:=fi;exact A5 1 (BD O (BF ⟨O,(CJ _)⟩))) (DU.cons O (λ_ _ o=>by intro ik fj il fk;cases fj;obtain ⟨rfl,im⟩:=fk;exact A5 1 (DN (o.st d) (mt mh) O O Hf ch O λio cp=>BF cp)) trivial)
     intro ip a7 ir fl it fm
     have cq:=SN.st d a7
     obtain⟨rfl,fn⟩:=fl
     obtain⟨fo,cr,E⟩:=bd E
     refine IB (r:=BQ) (l:=M) (i:=c.I) (x:=fo) O O (⟨_,O,O,fn⟩:Rd _ _ BQ _ (B8 (ac+ae))) fm cr N3.id AZ (λ_=>rfl) cq (.tail .head) λiu G bx=>AS (kp [7,33,32,3,34] O) (AE (AF Gb O (AT BX G O mh O AZ O (Cq O (AL (kp [61,7,33,32,3,34] O) (AW O E (λfp E=>?_) (λfp E=>?_)))))))
     ·refine F6 12 mo (by kernel_rfl) O G (AA O (AF Gb O (AT Bs G O mh O AZ O ?_)))
      obtain⟨iv,ct,E⟩:=bd E
      refine DN G (mt mh) O O Hf ct O λiw cu=>?_
      obtain⟨bz,cv,E⟩:=bd E
      have fq:=G.epAt (mt mh) cv Fm.id cu
      refine AY Bs (λ_ x=>x) O fq AZ O λiy=>AF I9 O (AT Bs G O mh O AZ O (AF Il O (AT Bs G O mh O AZ O ?_)))
      obtain⟨b0,cw,E⟩:=bd E
      refine Bz O O O Qb O (λh' o=>Gq (St.all h') bu bv cw) λfr=>?_
      have iz:=fr
      refine BD O ?_
      obtain⟨i0,cx,E⟩:=bd E
      refine DN G (mt mh) O O Hf cx O λi1 cy=>E0 λi2 cz fs=>?_
      obtain⟨ft,c0,E⟩:=bd E
      refine IB (r:=BQ) (l:=(upd M c.I (B8 (ac+ae)))) (i:=c.E) (x:=ft) O O (⟨_,O,O,(CJ _)⟩:Rd _ _ BQ _ (B8 (bz+b0))) cy c0 N3.id AZ (λ_=>rfl) cz (.tail .head) λi3 c1 fu=>AS (kp [33,32,3,34] O) (B0 (WF.nil (λy z g j=>?_)))
      have c2:=c1.sel [1] 1 O
      exact⟨(upd (upd M c.I (B8 (ac+ae))) c.E (B8 (bz+b0))),_,_,g.sub (kp [33,32,3,34] O),j,c2,(ah.trans (ab.trans ((SN.ext d.1 a7).trans (bx.trans (fs.trans fu))))),E⟩
     refine AQ (B0 (WF.nil (λy z g j=>?_)))
     have c3:=G.sel [1] 1 O
     exact⟨(upd M c.I (B8 (ac+ae))),_,_,g.sub (kp [33,32,3,34] O),j,c3,(ah.trans (ab.trans ((SN.ext d.1 a7).trans bx))),E⟩
    refine AC (AE (CR O (AJ O (kp [74,39,7,33,32,3,34] O) (HW (λa w=>∃(a8:Bool),IV B u Z (128,[]) a w [(39,vI c.C),(7,vP W 0),(33,vI (↑s.F.length:Int)),(32,a3),(3,t),(34,vI af),(74,.bool a8)] (Bx W 102 [.string c.J,vI c.C,vI c.I,vI c.E,ar,au,av,vI c.Q,vI c.Ab,vI c.Ad,vI c.O,vI c.N,vI c.H,vI c.Ak,vI c.Ae,vI c.Aa,vI c.Y,vI c.V]::OS BQ 3 t M::L) λ_ _=>Cv N M c (B3 N af (BI N s (B4 N) n3)) a8=some r) ?_ ?_))))
    ·refine AW O E (λfv E=>?_) (λfv E=>?_)
     ·refine AQ (WF.nil (λy z g j=>?_))
      exact⟨(decide (c.C=1)),_,_,g.sub (kp [39,7,33,32,3,34,74] O),j,d,(Cm.refl u Z),E⟩
     refine AE (CR O (AJ O (kp [74,39,7,33,32,3,34] O) (HW (λa w=>∃(ax:Bool),IV B u Z (128,[]) a w [(39,vI c.C),(7,vP W 0),(33,vI (↑s.F.length:Int)),(32,a3),(3,t),(34,vI af),(74,.bool ax)] (Bx W 102 [.string c.J,vI c.C,vI c.I,vI c.E,ar,au,av,vI c.Q,vI c.Ab,vI c.Ad,vI c.O,vI c.N,vI c.H,vI c.Ak,vI c.Ae,vI c.Aa,vI c.Y,vI c.V]::OS BQ 3 t M::L) λ_ _=>GM N (Cv N M c (B3 N af (BI N s (B4 N) n3))) ax=some r) ?_ ?_)))
     ·refine AW O E (λfw E=>?_) (λfw E=>?_)
      ·refine AQ (WF.nil (λy z g j=>?_))
       exact⟨(decide (c.C=5)),_,_,g.sub (kp [39,7,33,32,3,34,74] O),j,d,(Cm.refl u Z),E⟩
      refine CL (.inl O) (CR O (AJ O (kp [74,39,7,33,32,3,34] O) (WF.nil (λy z g j=>?_))))
      exact⟨(decide (c.C=3)),_,_,g.sub (kp [39,7,33,32,3,34,74] O),j,d,(Cm.refl u Z),E⟩
     rintro y z ⟨ax,i4,i5,g,j,c4,fx,E⟩
     refine A8 ?_ g j
     clear g j z y
     rw[GM] at E
     refine WF.nil (λy z g j=>?_)
     exact⟨ax,_,_,g.sub (kp [39,7,33,32,3,34,74] O),j,c4,fx,E⟩
    rintro y z ⟨a8,i6,i7,g,j,k,a9,E⟩
    refine A8 ?_ g j
    clear g j z y
    rw[Cv] at E
    refine AW O E (λfy E=>?_) (λfy E=>?_)
    ·refine F6 12 mo (by kernel_rfl) O k (AA O (AF H1 O (AT Bs k O mh O AZ O ?_)))
     obtain⟨i8,c5,E⟩:=bd E
     refine DN k (mt mh) O O Hf c5 O λi9 c6=>?_
     obtain⟨b1,c7,E⟩:=bd E
     have f0:=k.epAt (mt mh) c7 Fm.id c6
     refine AY Bs (λ_ x=>x) O f0 AZ O λja=>AF HL O (AT Bs k O mh O AZ O (AF IE O (AT Bs k O mh O AZ O ?_)))
     obtain⟨b2,c8,E⟩:=bd E
     refine Bz O O O Qb O (λh' o=>Gq (St.all h') bs bt c8) λf1=>?_
     have jb:=f1
     refine BD O ?_
     obtain⟨jc,c9,E⟩:=bd E
     refine DN k (mt mh) O O Hf c9 O λjd da=>E0 λje db f2=>?_
     obtain⟨f3,dc,E⟩:=bd E
     refine IB (r:=BQ) (l:=M) (i:=c.I) (x:=f3) O O (⟨_,O,O,(CJ _)⟩:Rd _ _ BQ _ (B8 (b1+b2))) da dc N3.id AZ (λ_=>rfl) db (.tail .head) λjf dd f4=>AS (kp [33,32,3,34] O) (B0 (WF.nil (λy z g j=>?_)))
     have de:=dd.sel [1] 1 O
     exact⟨(upd M c.I (B8 (b1+b2))),_,_,g.sub (kp [33,32,3,34] O),j,de,(ah.trans (ab.trans (a9.trans (f2.trans f4)))),E⟩
    refine AE (CR O (AJ O (kp [90,7,33,32,3,34] O) (AW O E (λf5 E=>?_) (λf5 E=>?_))))
    ·refine AC (F6 13 mo (by kernel_rfl) O k (AA O (AF H1 O (AT Bs k O mh O AZ O ?_))))
     obtain⟨jg,df,E⟩:=bd E
     refine DN k (mt mh) O O Hf df O λjh dg=>?_
     obtain⟨ba,dh,E⟩:=bd E
     have f6:=k.epAt (mt mh) dh Fm.id dg
     refine AY Bs (λ_ x=>x) O f6 AZ O λji=>AF HL O (AT Bs k O mh O AZ O (AF IE O (AT Bs k O mh O AZ O ?_)))
     obtain⟨bb,di,E⟩:=bd E
     refine Bz O O O Qb O (λh' o=>Gq (St.all h') bs bt di) λf7=>?_
     have jj:=f7
     refine RZ O O O (BD O ?_)
     obtain⟨jk,dj,E⟩:=bd E
     refine DN k (mt mh) O O Hf dj O λjl dk=>E0 λjm dl f8=>?_
     obtain⟨f9,dm,E⟩:=bd E
     refine IB (r:=BQ) (l:=M) (i:=c.I) (x:=f9) O O (⟨_,O,O,(CJ _)⟩:Rd _ _ BQ _ (B8 (ba+(B8 (2*bb))))) dk dm N3.id AZ (λ_=>rfl) dl (.tail .head) λjn X ga=>AS (kp [7,33,32,3,34] O) (F6 13 mo (by kernel_rfl) O X (AA O (AF Gb O (AT Bs X O mh O AZ O ?_))))
     obtain⟨jo,dn,E⟩:=bd E
     refine DN X (mt mh) O O Hf dn O λjp dp=>?_
     obtain⟨b3,dq,E⟩:=bd E
     have gb:=X.epAt (mt mh) dq Fm.id dp
     refine AY Bs (λ_ x=>x) O gb AZ O λjq=>AF I9 O (AT Bs X O mh O AZ O (AF Il O (AT Bs X O mh O AZ O ?_)))
     obtain⟨b4,dr,E⟩:=bd E
     refine Bz O O O Qb O (λh' o=>Gq (St.all h') bu bv dr) λgc=>?_
     have jr:=gc
     refine RZ O O O (BD O ?_)
     obtain⟨js,ds,E⟩:=bd E
     refine DN X (mt mh) O O Hf ds O λjt dt=>E0 λju du ge=>?_
     obtain⟨gf,dv,E⟩:=bd E
     refine IB (r:=BQ) (l:=(upd M c.I (B8 (ba+(B8 (2*bb)))))) (i:=c.E) (x:=gf) O O (⟨_,O,O,(CJ _)⟩:Rd _ _ BQ _ (B8 (b3+(B8 (2*b4))))) dt dv N3.id AZ (λ_=>rfl) du (.tail .head) λjv dw gg=>AS (kp [33,32,3,34] O) (B0 (WF.nil (λy z g j=>?_)))
     have dx:=dw.sel [1] 1 O
     exact⟨(upd (upd M c.I (B8 (ba+(B8 (2*bb))))) c.E (B8 (b3+(B8 (2*b4))))),_,_,g.sub (kp [33,32,3,34] O),j,dx,(ah.trans (ab.trans (a9.trans (f8.trans (ga.trans (ge.trans gg)))))),E⟩
    refine AQ (B0 (WF.nil (λy z g j=>?_)))
    have dy:=k.sel [1] 1 O
    exact⟨M,_,_,g.sub (kp [33,32,3,34] O),j,dy,(ah.trans (ab.trans a9)),E⟩
   rintro y z ⟨aq,jw,jx,g,j,dz,gh,E⟩
   refine A8 ?_ g j
   clear g j z y
   rw[B3] at E
   refine CL (.inl O) (BD O (AA O (AL (kp [34,33,32,3] O) (WF.nil (λy z g j=>?_)))))
   exact⟨(B8 (af+1)),aq,_,_,g.sub (kp [33,32,3,34] O),j,dz,(a4.trans gh),(CJ _),E⟩
  refine WF.exit O (λy z g j=>?_)
  exact⟨M,_,_,g.sub (kp [3] O),j,ap,a4,E⟩
 rintro y z ⟨az,bc,be,g,j,bf,b5,E⟩
 refine A8 ?_ g j
 clear g j z y
 rw[B4] at E
 refine AC (AE (AA O (Nx bf mh O Hf O λjy=>AA O (AL (kp [121,120,119] O) (BG (λa w=>IV B bc be (128,[]) a w [] (L) λ_ _=>C2 N=some r) ?_ ?_)))))
 ·refine Bt (λn8=>λa w=>∃(an:Int),IV B bc be (128,[]) a w [(120,vI (↑az.length:Int)),(119,t),(121,vI an)] (OS BQ 3 t az::L) λ_ _=>AD an∧CU N az (C2 N) n8 an=some r) N ?_ ?_ ?_
  ·intro y z g j
   exact⟨0,_,_,g.sub (kp [120,119,121] O),j,bf,(Cm.refl bc be),(iq (n:=0) O),E⟩
  ·rintro y z ⟨_,_,_,_,_,_,_,_,E⟩
   rw[CU] at E;cases E
  rintro n8 y z ⟨an,jz,j0,g,j,ag,bg,j1,E⟩
  refine A8 ?_ g j
  clear g j z y
  rw[CU] at E
  refine AE (BE O (AL (kp [122,120,119,121] O) (AC (AW O E (λgi E=>?_) (λgi E=>?_)))))
  ·refine AQ (AC (BW (AE ?_)))
   obtain⟨j2,d0,E⟩:=bd E
   refine DN ag mh O O Hf d0 O λj3 d1=>?_
   obtain⟨j4,d2,E⟩:=bd E
   have gj:=ag.epAt mh d2 Fm.id d1
   refine AY BX (λ_ x=>x) O gj AZ O λj5=>AJ O (kp [9,120,119,121] O) (AE (AA O (CN O (AL (kp [126,120,119,121] O) (AW O E (λgk E=>?_) (λgk E=>?_))))))
   ·refine AE (AJ O (kp [2] O) (WF.ret (λy z g j=>?_)))
    have d3:=ag.drop .head
    cases E
    exact EU g j O O (e5.trans (b7.trans (cb.trans (b5.trans bg)))) ⟨O,d3⟩
   refine AQ (B0 (CL (.inl O) (BD O (AA O (AL (kp [121,120,119] O) (WF.nil (λy z g j=>?_)))))))
   exact⟨(B8 (an+1)),_,_,g.sub (kp [120,119,121] O),j,ag,bg,(CJ _),E⟩
  refine WF.exit O (λy z g j=>?_)
  have d4:=ag.drop .head
  exact⟨_,_,g.sub Kv,j,d4,bg,E⟩
 rintro y z ⟨j6,j7,g,j,d5,gl,E⟩
 refine A8 ?_ g j
 clear g j z y
 rw[C2] at E
 refine AE (AJ O (kp [2] O) (WF.ret (λy z g j=>?_)))
 cases E
 exact EU g j O O (e5.trans (b7.trans (cb.trans (b5.trans gl)))) ⟨O,d5⟩
def MA (hs:St S L h) {s:Value}{d:AU}(I:Rd S h Ch s d) {r:Bool}(E:Gd N d=some r):
 Ct prog 42 #[s] S h (λv S' h'=>v= .bool r∧St S' (L) h'):=by
 refine BO (l:=[s]) 64 func42 O ntmps42 O λB=>?_
 rw[Gd] at E
 refine WF.sl (BM O I (λe=>by cases e) O hs λq1 S2 h3 aj e5 k6=>A5 1 (A4 O (A6 (AS (kp [1] O) (AC (AE (AV O k6 Gg K5 O λq7 k8=>BR BX aj.1 O k8 O7 O λv9 ak=>BJ O ak NS O λb8=>AA O (AL (kp [10,9,8,1] O) (BG (λa w=>IV B S2 h3 (64,[]) a w [(1,q1)] (L) λ_ _=>Dk N d=some r) ?_ ?_)))))))))
 ·refine Bt (λn1=>λa w=>∃(y:Int),IV B S2 h3 (64,[]) a w [(9,vI (↑d.Ac.length:Int)),(8,v9),(1,q1),(10,vI y)] (L) λ_ _=>AD y∧Dj N d (Dk N d) n1 y=some r) N ?_ ?_ ?_
  ·intro t u b c
   exact⟨0,_,_,b.sub (kp [9,8,1,10] O),c,aj,(Cm.refl S2 h3),(iq (n:=0) O),E⟩
  ·rintro t u ⟨_,_,_,_,_,_,_,_,E⟩
   rw[Dj] at E;cases E
  rintro n1 t u ⟨y,b9,ca,b,c,z,A,cb,E⟩
  refine A8 ?_ b c
  clear b c u t
  rw[Dj] at E
  refine AE (BE O (AL (kp [11,9,8,1,10] O) (AC (AW O E (λbf E=>?_) (λbf E=>?_)))))
  ·refine AQ (AC (BW (WF.sl (A5 2 ?_))))
   obtain⟨x,am,E⟩:=bd E
   refine B6 O O (ak.mono' A) NS am O λcc bg=>BP BX z.1 O bg KY (λe=>by cases e) O λcd bh=>A6 (CX Ql O z λce cf an K=>?_)
   obtain⟨rfl,⟨cg,bi,bj,bk,bl,bm,bn⟩⟩:=Fi.ex (bh.mono K)
   refine BU (vs:=[.string x.J,vI x.Ah,vI x.Bc,vI x.Az,vI x.Bh,vI x.Bd,vI x.Aw]) O O O O KY O an .head O λch g Y=>AS (kp [4,9,8,1,10] O) (AC (WF.rc (.inl O) g (AF No O (AT Bs g O mh O AZ O (AV O (k6.mono (A.trans (K.trans Y))) CC En O λci bo=>BR Bs g.1 O bo HD O λcj bp=>BJ O bp Ga O λbq=>?_)))))
   obtain⟨br,ao,E⟩:=bd E
   refine BL O O O Ph O (λh' o=>GE (St.all h') bi (LW bq) ao) (BT O (AA O ?_))
   obtain⟨ap,i,E⟩:=bd E
   refine AO 5 26 (.bool ap) ?_ ?_
   ·cases aq:(!br)
    ·have i:=GY aq i
     refine AB O (AF ST O (AB O (AT Bs g O mh O AZ O (AB O ?_))))
     obtain⟨ck,ar,i⟩:=bd i
     refine BL O O O I3 O (λh' o=>CS (St.all h') bj ar) (AB O (BT O (AI O ?_)))
     cases i
     exact AN O
    have i:=GX aq i
    cases i
    exact AX O O
   refine AA O ?_
   obtain⟨au,j,E⟩:=bd E
   refine AO 5 32 (.bool au) ?_ ?_
   ·cases av:ap
    ·have j:=GY av j
     refine AB O (AF PY O (AB O (AT Bs g O mh O AZ O (AB O ?_))))
     obtain⟨cl,aw,j⟩:=bd j
     refine BL O O O HV O (λh' o=>CH (St.all h') bk (iq (n:=0) O) (iq (n:=24) O) aw) (AB O (BT O (AI O ?_)))
     cases j
     exact AN O
    have j:=GX av j
    cases j
    exact AX O O
   refine AA O ?_
   obtain⟨ax,k,E⟩:=bd E
   refine AO 5 38 (.bool ax) ?_ ?_
   ·cases ay:au
    ·have k:=GY ay k
     refine AB O (AF WW O (AB O (AT Bs g O mh O AZ O (AB O ?_))))
     obtain⟨cm,az,k⟩:=bd k
     refine BL O O O HV O (λh' o=>CH (St.all h') bl (iq (n:=0) O) (iq (n:=1073741824) O) az) (AB O (BT O (AI O ?_)))
     cases k
     exact AN O
    have k:=GX ay k
    cases k
    exact AX O O
   refine AA O ?_
   obtain⟨a0,m,E⟩:=bd E
   refine AO 5 44 (.bool a0) ?_ ?_
   ·cases a1:ax
    ·have m:=GY a1 m
     refine AB O (AF WV O (AB O (AT Bs g O mh O AZ O (AB O ?_))))
     obtain⟨cn,a2,m⟩:=bd m
     refine BL O O O I3 O (λh' o=>CS (St.all h') bm a2) (AB O (BT O (AI O ?_)))
     cases m
     exact AN O
    have m:=GX a1 m
    cases m
    exact AX O O
   refine AA O ?_
   obtain⟨bs,p,E⟩:=bd E
   refine AO 5 50 (.bool bs) ?_ ?_
   ·cases a3:a0
    ·have p:=GY a3 p
     refine AB O (AF WU O (AB O (AT Bs g O mh O AZ O (AB O ?_))))
     obtain⟨co,a4,p⟩:=bd p
     refine BL O O O HV O (λh' o=>CH (St.all h') bn (iq (n:=0) O) (iq (n:=128) O) a4) (AB O (BT O (AI O ?_)))
     cases p
     exact AN O
    have p:=GX a3 p
    cases p
    exact AX O O
   refine Bu (kp [50,9,8,1,10] O) λcp Q a5=>AW O E (λbt E=>?_) (λbt E=>?_)
   ·refine AE (AJ O (kp [2] O) (WF.ret (λt u b c=>?_)))
    have a6:=Q.drop .head
    cases E
    exact EU b c O O (e5.trans (A.trans (K.trans (Y.trans a5)))) ⟨O,a6⟩
   refine AQ (B0 (CL (.inl O) (BD O (AA O (AL (kp [10,9,8,1] O) (WF.nil (λt u b c=>?_)))))))
   have a7:=Q.drop .head
   exact⟨(B8 (y+1)),_,_,b.sub (kp [9,8,1,10] O),c,a7,(A.trans (K.trans (Y.trans a5))),(CJ _),E⟩
  refine WF.exit O (λt u b c=>?_)
  exact⟨_,_,b.sub (kp [1] O),c,z,A,E⟩
 rintro t u ⟨Z,ab,b,c,U,ac,E⟩
 refine A8 ?_ b c
 clear b c u t
 rw[Dk] at E
 refine AC (AE (AV O (k6.mono ac) Hx O1 O λcq bu=>BR BX U.1 O bu Tk O λbv a8=>BJ O a8 QK O λcr=>AA O (AL (kp [55,54,53] O) (BG (λa w=>IV B Z ab (64,[]) a w [] (L) λ_ _=>E4 N=some r) ?_ ?_))))
 ·refine Bt (λn3=>λa w=>∃(C:Int),IV B Z ab (64,[]) a w [(54,vI (↑d.Aq.length:Int)),(53,bv),(55,vI C)] (L) λ_ _=>AD C∧Di N d (E4 N) n3 C=some r) N ?_ ?_ ?_
  ·intro t u b c
   exact⟨0,_,_,b.sub (kp [54,53,55] O),c,U,(Cm.refl Z ab),(iq (n:=0) O),E⟩
  ·rintro t u ⟨_,_,_,_,_,_,_,_,E⟩
   rw[Di] at E;cases E
  rintro n3 t u ⟨C,cs,ct,b,c,D,M,cu,E⟩
  refine A8 ?_ b c
  clear b c u t
  rw[Di] at E
  refine AE (BE O (AL (kp [56,54,53,55] O) (AC (AW O E (λbw E=>?_) (λbw E=>?_)))))
  ·refine AQ (AC (BW (WF.sl (A5 2 ?_))))
   obtain⟨V,ad,E⟩:=bd E
   refine B6 O O (a8.mono' M) QK ad O λbx a9=>BP BX D.1 O a9 Qo (λe=>by cases e) O λbz ba=>A6 (CX VD O D λb0 b1 ae F=>?_)
   obtain⟨rfl,⟨b2,bb⟩⟩:=Dr.ex (ba.mono F)
   refine BU (vs:=[.string V.J,vI V.Ap]) O O O O Qo O ae .head O λb3 G W=>AS (kp [6,54,53,55] O) (AC (WF.rc (.inl O) G (AF WN O (AT Bs G O mh O AZ O ?_))))
   obtain⟨b4,af,E⟩:=bd E
   refine BL O O O HV O (λh' o=>CH (St.all h') bb (iq (n:=0) O) (iq (n:=1073741824) O) af) (BT O (Bu (kp [62,54,53,55] O) λb5 H X=>AW O E (λbc E=>?_) (λbc E=>?_)))
   ·refine AE (AJ O (kp [2] O) (WF.ret (λt u b c=>?_)))
    have ag:=H.drop .head
    cases E
    exact EU b c O O (e5.trans (ac.trans (M.trans (F.trans (W.trans X))))) ⟨O,ag⟩
   refine AQ (B0 (CL (.inl O) (BD O (AA O (AL (kp [55,54,53] O) (WF.nil (λt u b c=>?_)))))))
   have ah:=H.drop .head
   exact⟨(B8 (C+1)),_,_,b.sub (kp [54,53,55] O),c,ah,(M.trans (F.trans (W.trans X))),(CJ _),E⟩
  refine WF.exit O (λt u b c=>?_)
  exact⟨_,_,b.sub Kv,c,D,M,E⟩
 rintro t u ⟨b6,b7,b,c,ai,be,E⟩
 refine A8 ?_ b c
 clear b c u t
 rw[E4] at E
 refine AE (AJ O (kp [2] O) (WF.ret (λt u b c=>?_)))
 cases E
 exact EU b c O O (e5.trans (ac.trans be)) ⟨O,ai⟩
def Lh (hs:St S L h) {g:Value}{b:AU}(K:Rd S h Ch g b) {r:Bool}(E:GH N b=some r):
 Ct prog 43 #[g] S h (λv S' h'=>v= .bool r∧St S' (L) h'):=by
 refine BO (l:=[g]) 47 func43 O ntmps43 O λB=>?_
 rw[GH] at E
 refine WF.sl (BM O K (λe=>by cases e) O hs λq1 S2 h3 X e5 k6=>A5 1 (A4 O (A6 (AS (kp [1] O) (AC (AE (AV O k6 Ji RB O λq7 k8=>BR BX X.1 O k8 VN O λv9 Y=>BJ O Y Ry O λbj=>AA O (AL (kp [9,8,7,1] O) (BG (λa w=>IV B S2 h3 (47,[]) a w [] (L) λ_ _=>Es N=some r) ?_ ?_)))))))))
 ·refine Bt (λn1=>λa w=>∃(u:Int),IV B S2 h3 (47,[]) a w [(8,vI (↑b.Am.length:Int)),(7,v9),(1,q1),(9,vI u)] (L) λ_ _=>AD u∧Dc N b (Es N) n1 u=some r) N ?_ ?_ ?_
  ·intro H I i j
   exact⟨0,_,_,i.sub (kp [8,7,1,9] O),j,X,(Cm.refl S2 h3),(iq (n:=0) O),E⟩
  ·rintro H I ⟨_,_,_,_,_,_,_,_,E⟩
   rw[Dc] at E;cases E
  rintro n1 H I ⟨u,bk,bl,i,j,x,t,bm,E⟩
  refine A8 ?_ i j
  clear i j I H
  rw[Dc] at E
  refine AE (BE O (AL (kp [10,8,7,1,9] O) (AC (AW O E (λaw E=>?_) (λaw E=>?_)))))
  ·refine AQ (AC (BW (WF.sl (A5 2 ?_))))
   obtain⟨y,ab,E⟩:=bd E
   refine B6 O O (Y.mono' t) Ry ab O λbn ax=>BP BX x.1 O ax Qp (λe=>by cases e) O λbo ay=>A6 (CX VE O x λbp bq ac A=>?_)
   obtain⟨rfl,⟨br,az,a0,a1,a2⟩⟩:=Ez.ex (ay.mono A)
   refine BU (vs:=[.string y.J,vI y.C,vI y.T,vI y.Z,vI y.Bl]) O O O O Qp O ac .head O λbs m M=>AS (kp [4,8,7,1,9] O) (AC (AC (WF.rc (.inl O) m (AF SR O (AT Bs m O mh O AZ O ?_)))))
   obtain⟨a3,ad,E⟩:=bd E
   refine BL O O O HV O (λh' o=>CH (St.all h') az (iq (n:=0) O) (iq (n:=2) O) ad) (BT O (AA O ?_))
   obtain⟨ae,c,E⟩:=bd E
   refine AO 5 22 (.bool ae) ?_ ?_
   ·cases af:(!a3)
    ·have c:=GY af c
     refine AB O (AF WQ O (AB O (AT Bs m O mh O AZ O (AB O ?_))))
     obtain⟨bt,ag,c⟩:=bd c
     refine BL O O O HV O (λh' o=>CH (St.all h') a1 (iq (n:=0) O) (iq (n:=1099511627776) O) ag) (AB O (BT O (AI O ?_)))
     cases c
     exact AN O
    have c:=GX af c
    cases c
    exact AX O O
   refine AA O ?_
   obtain⟨a4,d,E⟩:=bd E
   refine AO 5 28 (.bool a4) ?_ ?_
   ·cases ah:ae
    ·have d:=GY ah d
     refine AB O (AF WP O (AB O (AT Bs m O mh O AZ O (AB O ?_))))
     obtain⟨bu,ai,d⟩:=bd d
     refine BL O O O HV O (λh' o=>CH (St.all h') a2 (iq (n:=0) O) (iq (n:=1440) O) ai) (AB O (BT O (AI O ?_)))
     cases d
     exact AN O
    have d:=GX ah d
    cases d
    exact AX O O
   refine Bu (kp [28,4,8,7,1,9] O) λbv k Q=>AW O E (λa5 E=>?_) (λa5 E=>?_)
   ·refine AE (AJ O (kp [2] O) (WF.ret (λH I i j=>?_)))
    have aj:=k.drop .head
    cases E
    exact EU i j O O (e5.trans (t.trans (A.trans (M.trans Q)))) ⟨O,aj⟩
   refine AQ (WF.sl (A5 9 ?_))
   have V:=k6.mono (t.trans (A.trans (M.trans Q)))
   refine AV O V CC En O λbw a6=>BR BX k.1 O a6 HD O λbx a7=>BJ O a7 Ga O λa8=>AV O V KI RC O λbz a9=>AY BX k.1 O a9 AZ O λba=>AV O V AU.f_Links Gu O λb0 bb=>BR BX k.1 O bb JP O λb1 bc=>BJ O bc Ht O λbe=>Yb (cs:=[vI (↑b.D.length:Int),vI b.W,vI (↑b.F.length:Int)]) aT O O O (A6 (CX ZF O k λb2 b3 ak am=>BU (vs:=[vI (↑b.D.length:Int),vI b.W,vI (↑b.F.length:Int)]) O O O O ZN O ak .head O λb4 s an=>AS (kp [5,4,8,7,1,9] O) (AC (WF.rc (.inr ⟨mo,by kernel_rfl⟩) s (AF WR O (AT Bs s O (mt mh) O AZ O (AF SR O (AT Bs s O (mt mh) O AZ O ?_))))))))
   obtain⟨bf,G,E⟩:=bd E
   have ao:=Y0 G
   refine bE O O aS ao.1 ao.2 O (YW (l:=([(↑b.D.length:Int),b.W,(↑b.F.length:Int)]:List Int)) (Value.int .i64) Bs s O mh O G AZ O ?_)
   have bg:AD bf:=dR (p:=λz=>AD z) (all_cons (LW a8) (all_cons ba (all_cons (LW be) YM))) G
   obtain⟨b5,ap,E⟩:=bd E
   refine BL O O O Ph O (λh' o=>GE (St.all h') a0 bg ap) (BT O (Bu (kp [45,8,7,1,9] O) λb6 U aq=>AW O E (λbh E=>?_) (λbh E=>?_)))
   ·refine AE (AJ O (kp [2] O) (WF.ret (λH I i j=>?_)))
    have ar:=U.sel [] 2 O
    cases E
    exact EU i j O O (e5.trans (t.trans (A.trans (M.trans (Q.trans (am.trans (an.trans aq))))))) ⟨O,ar⟩
   refine AQ (B0 (CL (.inl O) (BD O (AA O (AL (kp [9,8,7,1] O) (WF.nil (λH I i j=>?_)))))))
   have au:=U.sel [] 2 O
   exact⟨(B8 (u+1)),_,_,i.sub (kp [8,7,1,9] O),j,au,(t.trans (A.trans (M.trans (Q.trans (am.trans (an.trans aq)))))),(CJ _),E⟩
  refine WF.exit O (λH I i j=>?_)
  exact⟨_,_,i.sub Kv,j,x,t,E⟩
 rintro H I ⟨b7,b8,i,j,av,bi,E⟩
 refine A8 ?_ i j
 clear i j I H
 rw[Es] at E
 refine AE (AJ O (kp [2] O) (WF.ret (λH I i j=>?_)))
 cases E
 exact EU i j O O (e5.trans bi) ⟨O,av⟩
end Go.Proofs.YtibidnaedddfdaaGreat
