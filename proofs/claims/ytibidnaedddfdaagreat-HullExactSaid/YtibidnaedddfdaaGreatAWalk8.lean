import Derived.Test.YtibidnaedddfdaaGreatAWalk7
namespace Go.Proofs.YtibidnaedddfdaaGreat
open Go.RowKit
set_option linter.unusedVariables false
set_option linter.unusedSimpArgs false
set_option maxRecDepth 10000
set_option maxHeartbeats 2000000
variable {N:Nat}{S:Nat→Prop}{L:List HP}{h:Ad}
theorem LU (hs:St S L h) {g:Value}{b:AJ}(n:Rd S h A3 g b) {i:Value}{j:Aq}(o:Rd S h Bj i j) {d:Value}{a:DF}(k:Rd S h GY d a) {r:Bool}(E:Fe N b j a=some r):
 BP Tryz.prog 9 #[g,i,d] S h (λv S' h'=>v= .bool r∧St S' (L) h'):=by
 refine Ac (l:=[g,i,d]) 57 Tryz.func9 O Tryz.ntmps9 O λB=>?_
 rw[Fe] at E
 refine WF.seq (WF.rl (LF.boxp O n (λe=>by cases e) O hs λq1 S2 h3 A z k6=>?_))
 have k7:=o.mono z
 refine LF.boxp O k7 (λe=>by cases e) O A λq8 S9 ag w p C=>?_
 have D:=k.mono (z.trans p)
 refine LF.boxp O D (λe=>by cases e) O w λah ai aj c s m=>LF.q 1 (QF.as_ O O (AE (LF.nil (kp [5,4,3] O) (WF.seq (WF.seq (WF.rp (.inl O) ?_))))))
 have t:=k6.mono (p.trans s)
 refine QF.fa O t Ah Bs O λak F=>QF.ldl Aa c.1 O F EY O λam G=>QF.len O G Dk O λan=>QF.gtr O O O (QF.mv O O (QF.cutv 5 16 (.bool ((decide (6<(↑b.Places.length:Int)))||(decide (6<(↑b.Links.length:Int))))) ?_ ?_))
 ·
  cases ao:(decide (6<(↑b.Places.length:Int)))
  ·exact QF.gy O O O (QF.fa O t AJ.f_Links EE O λap H=>QF.gy O O O (QF.ldl Aa c.1 O H G7 O λaq I=>QF.gy O O O (QF.len O I FT O λar=>QF.gy O O O (QF.gtr O O O (QF.pick O O O (AH O))))))
  ·exact AL O O
 refine QF.mv O O (QF.cutv 5 22 (.bool (((decide (6<(↑b.Places.length:Int)))||(decide (6<(↑b.Links.length:Int))))||(decide (4<(↑b.Owners.length:Int))))) ?_ ?_)
 ·
  cases au:((decide (6<(↑b.Places.length:Int)))||(decide (6<(↑b.Links.length:Int))))
  ·exact QF.gy O O O (QF.fa O t Ct Hf O λav J=>QF.gy O O O (QF.ldl Aa c.1 O J Ke O λaw K=>QF.gy O O O (QF.len O K J5 O λax=>QF.gy O O O (QF.gtr O O O (QF.pick O O O (AH O))))))
  ·exact AL O O
 refine QF.mv O O (QF.cutv 5 28 (.bool ((((decide (6<(↑b.Places.length:Int)))||(decide (6<(↑b.Links.length:Int))))||(decide (4<(↑b.Owners.length:Int))))||(decide (16<(↑j.Queue.length:Int))))) ?_ ?_)
 ·
  cases ay:(((decide (6<(↑b.Places.length:Int)))||(decide (6<(↑b.Links.length:Int))))||(decide (4<(↑b.Owners.length:Int))))
  ·
   refine QF.gy O O O ?_
   have M:=C.mono s
   exact QF.fa O M Aq.f_Queue HG O λaz Q=>QF.gy O O O (QF.ldl Aa c.1 O Q J4 O λa0 U=>QF.gy O O O (QF.len O U EZ O λa1=>QF.gy O O O (QF.gtr O O O (QF.pick O O O (AH O)))))
  ·exact AL O O
 refine AA (kp [28,5] O) (WF.if_ O (λu=>?_) (λu=>?_))
 ·
  have E:=Av u E
  refine WF.seq (WF.rp (.inl O) (QF.as_ O O (AA (kp [6] O) (WF.ret (λaa ww hf hw=>?_)))))
  cases E
  have x:=z.trans (p.trans s)
  exact CS hf hw O O x ⟨O,c⟩
 ·
  have E:=Aw u E
  refine WF.skip (WF.seq (WF.rp (.inl O) (QF.fa O m DF.f_Rain Ur O λa2 V=>QF.ldl Aa c.1 O V GV O λa3 W=>QF.len O W Ea O λa4=>QF.leq O O O (QF.mv O O (QF.cutv 5 38 (.bool ((decide ((↑a.Rain.length:Int)≤8))&&(decide ((↑a.Faults.length:Int)≤8)))) ?_ ?_)))))
  ·
   cases a5:(decide ((↑a.Rain.length:Int)≤8))
   ·exact AL O O
   ·exact QF.gy O O O (QF.fa O m KG Q9 O λa6 X=>QF.gy O O O (QF.ldl Aa c.1 O X U7 O λa7 Y=>QF.gy O O O (QF.len O Y SW O λa8=>QF.gy O O O (QF.leq O O O (QF.pick O O O (AH O))))))
  refine QF.mv O O (QF.cutv 5 44 (.bool (((decide ((↑a.Rain.length:Int)≤8))&&(decide ((↑a.Faults.length:Int)≤8)))&&(decide ((↑a.Cmds.length:Int)≤8)))) ?_ ?_)
  ·
   cases a9:((decide ((↑a.Rain.length:Int)≤8))&&(decide ((↑a.Faults.length:Int)≤8)))
   ·exact AL O O
   ·exact QF.gy O O O (QF.fa O m Ld Q8 O λba Z=>QF.gy O O O (QF.ldl Aa c.1 O Z U6 O λbb ab=>QF.gy O O O (QF.len O ab SV O λbc=>QF.gy O O O (QF.leq O O O (QF.pick O O O (AH O))))))
  refine QF.mv O O (QF.cutv 5 50 (.bool ((((decide ((↑a.Rain.length:Int)≤8))&&(decide ((↑a.Faults.length:Int)≤8)))&&(decide ((↑a.Cmds.length:Int)≤8)))&&(decide ((↑a.Takes.length:Int)≤8)))) ?_ ?_)
  ·
   cases be:(((decide ((↑a.Rain.length:Int)≤8))&&(decide ((↑a.Faults.length:Int)≤8)))&&(decide ((↑a.Cmds.length:Int)≤8)))
   ·exact AL O O
   ·exact QF.gy O O O (QF.fa O m K7 Q7 O λbf ac=>QF.gy O O O (QF.ldl Aa c.1 O ac U5 O λbg ad=>QF.gy O O O (QF.len O ad SU O λbh=>QF.gy O O O (QF.leq O O O (QF.pick O O O (AH O))))))
  refine QF.mv O O (QF.cutv 5 56 (.bool (((((decide ((↑a.Rain.length:Int)≤8))&&(decide ((↑a.Faults.length:Int)≤8)))&&(decide ((↑a.Cmds.length:Int)≤8)))&&(decide ((↑a.Takes.length:Int)≤8)))&&(decide ((↑a.Swaps.length:Int)≤8)))) ?_ ?_)
  ·
   cases bi:((((decide ((↑a.Rain.length:Int)≤8))&&(decide ((↑a.Faults.length:Int)≤8)))&&(decide ((↑a.Cmds.length:Int)≤8)))&&(decide ((↑a.Takes.length:Int)≤8)))
   ·exact AL O O
   ·exact QF.gy O O O (QF.fa O m N2 Uq O λbj ae=>QF.gy O O O (QF.ldl Aa c.1 O ae W7 O λbk af=>QF.gy O O O (QF.len O af XF O λbl=>QF.gy O O O (QF.leq O O O (QF.pick O O O (AH O))))))
  refine QF.as_ O O (AA (kp [6] O) (WF.ret (λaa ww hf hw=>?_)))
  cases E
  have y:=z.trans (p.trans s)
  exact CS hf hw O O y ⟨O,c⟩
theorem A6 (hs:St S L h) {c:Int}(i:AB c) {b:Int}(g:AB b) {a:Int}(d:AB a) {r:Bool}(E:BF N c b a=some r):
 BP Tryz.prog 85 #[.int .i64 c,.int .i64 b,.int .i64 a] S h (λv S' h'=>v= .bool r∧St S' (L) h'):=by
 refine Ac (l:=[.int .i64 c,.int .i64 b,.int .i64 a]) 15 Tryz.func85 O Tryz.ntmps85 O λB=>?_
 rw[BF] at E
 refine WF.seq (WF.rp (.inl O) (QF.as_ O O (AA (kp [0,1,2] O) (WF.seq (WF.rp (.inl O) (QF.mv O O (QF.mv O O (QF.leq O O O (QF.mv O O (QF.cutv 4 14 (.bool ((decide (b≤c))&&(decide (c≤a)))) ?_ ?_))))))))))
 ·
  cases j:(decide (b≤c))
  ·exact AL O O
  ·exact QF.gy O O O (QF.mv O O (QF.gy O O O (QF.mv O O (QF.gy O O O (QF.leq O O O (QF.pick O O O (AH O)))))))
 refine QF.as_ O O (AA (kp [6] O) (WF.ret (λaa ww hf hw=>?_)))
 cases E
 exact CS hf hw O O (BO.refl S h) ⟨O,hs⟩
theorem BB (hs:St S L h) {a:Int}(b:AB a) {r:Bool}(E:BC N a=some r):
 BP Tryz.prog 86 #[.int .i64 a] S h (λv S' h'=>v= .bool r∧St S' (L) h'):=by
 refine Ac (l:=[.int .i64 a]) 5 Tryz.func86 O Tryz.ntmps86 O λB=>?_
 rw[BC] at E
 refine WF.seq (WF.rp (.inl O) (QF.as_ O O (AA (kp [0] O) (WF.seq (WF.rc (.inl O) hs (QF.mv O O ?_))))))
 obtain⟨i,c,E⟩:=bd E
 refine AZ O O O F7 O (λh' o=>A6 (St.all h') b (iq (n:=0) O) (iq (n:=1125899906842624) O) c) (QF.as_ O O (Ai (kp [2] O) λj d g=>WF.ret (λaa ww hf hw=>?_)))
 cases E
 exact CS hf hw O O g ⟨O,d⟩
theorem LV (hs:St S L h) {p:Value}{b:AJ}(Q:Rd S h A3 p b) {r:Bool}(E:Ff N b=some r):
 BP Tryz.prog 36 #[p] S h (λv S' h'=>v= .bool r∧St S' (L) h'):=by
 refine Ac (l:=[p]) 109 Tryz.func36 O Tryz.ntmps36 O λB=>?_
 rw[Ff] at E
 refine WF.seq (WF.rl (LF.boxp O Q (λe=>by cases e) O hs λq1 S2 h3 m e5 y=>LF.q 1 (QF.as_ O O (AE (LF.nil (kp [1] O) (WF.seq (WF.seq (WF.rc (.inl O) m (QF.fa O y AJ.f_Name O1 O λq7 k8=>QF.lds Ak m.1 O k8 N6 O λr9=>QF.lens O N5 O (QF.gtr O O O ?_))))))))))
 refine QF.mv O O ?_
 obtain⟨aj,g,E⟩:=bd E
 refine QF.cutv 6 17 (.bool aj) ?_ ?_
 ·
  cases ak:(decide (500<(↑b.Name.size:Int)))
  ·
   have g:=Aw ak g
   refine QF.gy O O O (QF.fa O y Ct Hf O λcb a3=>QF.gy O O O (QF.ldl Ak m.1 O a3 Ke O λcc a4=>QF.gy O O O (QF.len O a4 J5 O λa5=>QF.gy O O O ?_)))
   obtain⟨cd,am,g⟩:=bd g
   refine AZ O O O F7 O (λh' o=>A6 (St.all h') (IJ a5) (iq (n:=1) O) (iq (n:=16) O) am) (QF.gy O O O (QF.not O O (QF.pick O O O ?_)))
   cases g
   exact AH O
  ·
   have g:=Av ak g
   cases g
   exact AL O O
 refine QF.mv O O ?_
 obtain⟨an,i,E⟩:=bd E
 refine QF.cutv 5 23 (.bool an) ?_ ?_
 ·
  cases ao:aj
  ·
   have i:=Aw ao i
   refine QF.gy O O O (QF.fa O y I3 O0 O λce a6=>QF.gy O O O (QF.ldi Ak m.1 O a6 AN O λa7=>QF.gy O O O ?_))
   obtain⟨cf,ap,i⟩:=bd i
   refine AZ O O O F7 O (λh' o=>A6 (St.all h') a7 (iq (n:=0) O) (iq (n:=64) O) ap) (QF.gy O O O (QF.not O O (QF.pick O O O ?_)))
   cases i
   exact AH O
  ·
   have i:=Av ao i
   cases i
   exact AL O O
 refine QF.mv O O ?_
 obtain⟨d,j,E⟩:=bd E
 refine QF.cutv 6 30 (.bool d) ?_ ?_
 ·
  cases aq:an
  ·
   have j:=Aw aq j
   refine QF.gy O O O (QF.fa O y Ah Bs O λcg a8=>QF.gy O O O (QF.ldl Ak m.1 O a8 EY O λch a9=>QF.gy O O O (QF.len O a9 Dk O λba=>QF.gy O O O ?_)))
   obtain⟨ci,ar,j⟩:=bd j
   refine AZ O O O F7 O (λh' o=>A6 (St.all h') (IJ ba) (iq (n:=1) O) (iq (n:=64) O) ar) (QF.gy O O O (QF.not O O (QF.pick O O O ?_)))
   cases j
   exact AH O
  ·
   have j:=Av aq j
   cases j
   exact AL O O
 refine QF.mv O O (QF.cutv 5 36 (.bool (d||(decide (96<(↑b.Links.length:Int))))) ?_ ?_)
 ·
  cases cj:d
  ·exact QF.gy O O O (QF.fa O y AJ.f_Links EE O λck bb=>QF.gy O O O (QF.ldl Ak m.1 O bb G7 O λcl bc=>QF.gy O O O (QF.len O bc FT O λcm=>QF.gy O O O (QF.gtr O O O (QF.pick O O O (AH O))))))
  ·exact AL O O
 refine QF.mv O O (QF.cutv 5 42 (.bool ((d||(decide (96<(↑b.Links.length:Int))))||(decide (40<(↑b.Towns.length:Int))))) ?_ ?_)
 ·
  cases cn:(d||(decide (96<(↑b.Links.length:Int))))
  ·exact QF.gy O O O (QF.fa O y Gp MJ O λco be=>QF.gy O O O (QF.ldl Ak m.1 O be PT O λcp bf=>QF.gy O O O (QF.len O bf NT O λcq=>QF.gy O O O (QF.gtr O O O (QF.pick O O O (AH O))))))
  ·exact AL O O
 refine QF.mv O O (QF.cutv 5 48 (.bool (((d||(decide (96<(↑b.Links.length:Int))))||(decide (40<(↑b.Towns.length:Int))))||(decide (128<(↑b.Gauges.length:Int))))) ?_ ?_)
 ·
  cases cr:((d||(decide (96<(↑b.Links.length:Int))))||(decide (40<(↑b.Towns.length:Int))))
  ·exact QF.gy O O O (QF.fa O y Zq Oz O λcs bg=>QF.gy O O O (QF.ldl Ak m.1 O bg SE O λct bh=>QF.gy O O O (QF.len O bh Pb O λcu=>QF.gy O O O (QF.gtr O O O (QF.pick O O O (AH O))))))
  ·exact AL O O
 refine QF.mv O O (QF.cutv 5 54 (.bool ((((d||(decide (96<(↑b.Links.length:Int))))||(decide (40<(↑b.Towns.length:Int))))||(decide (128<(↑b.Gauges.length:Int))))||(decide (128<(↑b.Roads.length:Int))))) ?_ ?_)
 ·
  cases cv:(((d||(decide (96<(↑b.Links.length:Int))))||(decide (40<(↑b.Towns.length:Int))))||(decide (128<(↑b.Gauges.length:Int))))
  ·exact QF.gy O O O (QF.fa O y I2 Oy O λcw bi=>QF.gy O O O (QF.ldl Ak m.1 O bi SD O λcx bj=>QF.gy O O O (QF.len O bj Pa O λcy=>QF.gy O O O (QF.gtr O O O (QF.pick O O O (AH O))))))
  ·exact AL O O
 refine QF.mv O O (QF.cutv 5 60 (.bool (((((d||(decide (96<(↑b.Links.length:Int))))||(decide (40<(↑b.Towns.length:Int))))||(decide (128<(↑b.Gauges.length:Int))))||(decide (128<(↑b.Roads.length:Int))))||(decide (40<(↑b.Shelters.length:Int))))) ?_ ?_)
 ·
  cases cz:((((d||(decide (96<(↑b.Links.length:Int))))||(decide (40<(↑b.Towns.length:Int))))||(decide (128<(↑b.Gauges.length:Int))))||(decide (128<(↑b.Roads.length:Int))))
  ·exact QF.gy O O O (QF.fa O y GZ NM O λc0 bk=>QF.gy O O O (QF.ldl Ak m.1 O bk Qn O λc1 bl=>QF.gy O O O (QF.len O bl OG O λc2=>QF.gy O O O (QF.gtr O O O (QF.pick O O O (AH O))))))
  ·exact AL O O
 refine QF.mv O O (QF.cutv 5 66 (.bool ((((((d||(decide (96<(↑b.Links.length:Int))))||(decide (40<(↑b.Towns.length:Int))))||(decide (128<(↑b.Gauges.length:Int))))||(decide (128<(↑b.Roads.length:Int))))||(decide (40<(↑b.Shelters.length:Int))))||(decide ((↑b.Room.length:Int)≠3)))) ?_ ?_)
 ·
  cases c3:(((((d||(decide (96<(↑b.Links.length:Int))))||(decide (40<(↑b.Towns.length:Int))))||(decide (128<(↑b.Gauges.length:Int))))||(decide (128<(↑b.Roads.length:Int))))||(decide (40<(↑b.Shelters.length:Int))))
  ·exact QF.gy O O O (QF.fa O y AJ.f_Room RA O λc4 bm=>QF.gy O O O (QF.ldl Ak m.1 O bm GV O λc5 bn=>QF.gy O O O (QF.len O bn Ea O λc6=>QF.gy O O O (QF.neq O O O (QF.pick O O O (AH O))))))
  ·exact AL O O
 refine QF.mv O O ?_
 obtain⟨bo,k,E⟩:=bd E
 refine QF.cutv 5 72 (.bool bo) ?_ ?_
 ·
  cases au:((((((d||(decide (96<(↑b.Links.length:Int))))||(decide (40<(↑b.Towns.length:Int))))||(decide (128<(↑b.Gauges.length:Int))))||(decide (128<(↑b.Roads.length:Int))))||(decide (40<(↑b.Shelters.length:Int))))||(decide ((↑b.Room.length:Int)≠3)))
  ·
   have k:=Aw au k
   refine QF.gy O O O (QF.fa O y AJ.f_Err TF O λc7 bp=>QF.gy O O O (QF.ldi Ak m.1 O bp AN O λbq=>QF.gy O O O ?_))
   obtain⟨c8,av,k⟩:=bd k
   refine AZ O O O F7 O (λh' o=>A6 (St.all h') bq (iq (n:=0) O) (iq (n:=1099511627776) O) av) (QF.gy O O O (QF.not O O (QF.pick O O O ?_)))
   cases k
   exact AH O
  ·
   have k:=Av au k
   cases k
   exact AL O O
 refine Ai (kp [72,1] O) λY z A=>WF.if_ O (λZ=>?_) (λZ=>?_)
 ·
  have E:=Av Z E
  refine WF.seq (WF.rp (.inl O) (QF.as_ O O (AA (kp [2] O) (WF.ret (λaa ww hf hw=>?_)))))
  cases E
  exact CS hf hw O O (e5.trans A) ⟨O,z⟩
 ·
  have E:=Aw Z E
  refine WF.skip (WF.seq (WF.seq (WF.rp (.inl O) ?_)))
  have ab:=y.mono A
  refine QF.fa O ab AJ.f_Name O1 O λc9 br=>QF.lds Aa z.1 O br N6 O λda=>QF.lens O N5 O (QF.mv O O (AA (kp [76,75,1] O) (WF.blockJ (λa w=>IV B S2 Y (109,[]) a w [(1,q1)] (L) λ_ _=>CG N b=some r) ?_ ?_)))
  ·
   refine WF.loopF (λn1=>λa w=>∃(C:Int),IV B S2 Y (109,[]) a w [(75,.int .i64 (↑b.Name.size:Int)),(1,q1),(76,.int .i64 C)] (L) λ_ _=>AB C∧CF N b (CG N b) n1 C=some r) N ?_ ?_ ?_
   ·
    intro aa ww hf hw
    exact⟨0,_,_,hf.sub (kp [75,1,76] O),hw,z,(BO.refl S2 Y),(iq (n:=0) O),E⟩
   ·
    rintro aa ww ⟨_,_,_,_,_,_,_,_,E⟩
    rw[CF] at E;cases E
   ·
    rintro n1 aa ww ⟨C,db,dc,hf,hw,u,U,dd,E⟩
    refine WF.run ?_ hf hw
    clear hf hw ww aa
    rw[CF] at E
    refine WF.seq (WF.rp (.inl O) (QF.lss O O O (AA (kp [77,75,1,76] O) (WF.seq (WF.if_ O (λac=>?_) (λac=>?_))))))
    ·
     have E:=Av ac E
     refine WF.skip (WF.seq (WF.block (WF.seq (WF.rp (.inl O) (QF.mv O O (QF.as_ O O (AA (kp [3,75,1,76] O) (WF.seq (WF.rp (.inl O) ?_)))))))))
     have bt:=ab.mono U
     refine QF.fa O bt AJ.f_Name O1 O λde bu=>QF.lds Aa u.1 O bu N6 O λdf=>QF.mv O O ?_
     obtain⟨c,V,E⟩:=bd E
     have bv:=MR V
     refine QF.bixk O O N5 V O (QF.as_ O O (AA (kp [4,75,1,76] O) (WF.seq (WF.rp (.inl O) (QF.mv O O (QF.lss O O O (QF.mv O O (QF.cutv 3 88 (.bool ((decide (c<32))||(decide (126<c)))) ?_ ?_))))))))
     ·
      cases bw:(decide (c<32))
      ·exact QF.gy O O O (QF.mv O O (QF.gy O O O (QF.gtr O O O (QF.pick O O O (AH O)))))
      ·exact AL O O
     refine QF.mv O O (QF.cutv 3 92 (.bool (((decide (c<32))||(decide (126<c)))||(decide (c=34)))) ?_ ?_)
     ·
      cases bx:((decide (c<32))||(decide (126<c)))
      ·exact QF.gy O O O (QF.mv O O (QF.gy O O O (QF.eql O O O (QF.pick O O O (AH O)))))
      ·exact AL O O
     refine QF.mv O O (QF.cutv 3 96 (.bool ((((decide (c<32))||(decide (126<c)))||(decide (c=34)))||(decide (c=92)))) ?_ ?_)
     ·
      cases bz:(((decide (c<32))||(decide (126<c)))||(decide (c=34)))
      ·exact QF.gy O O O (QF.mv O O (QF.gy O O O (QF.eql O O O (QF.pick O O O (AH O)))))
      ·exact AL O O
     refine AA (kp [96,75,1,76] O) (WF.if_ O (λD=>?_) (λD=>?_))
     ·
      have E:=Av D E
      refine WF.seq (WF.rp (.inl O) (QF.as_ O O (AA (kp [2] O) (WF.ret (λaa ww hf hw=>?_)))))
      cases E
      have ad:=e5.trans (A.trans U)
      exact CS hf hw O O ad ⟨O,u⟩
     ·
      have E:=Aw D E
      refine WF.skip (Al (WF.rp (.inl O) (QF.addw O O O (QF.mv O O (AA (kp [76,75,1] O) (WF.nil (λaa ww hf hw=>?_)))))))
      exact⟨(Ar (C+1)),_,_,hf.sub (kp [75,1,76] O),hw,u,U,(Au _),E⟩
    ·
     have E:=Aw ac E
     refine WF.exit O (λaa ww hf hw=>?_)
     exact⟨_,_,hf.sub (kp [1] O),hw,u,U,E⟩
  ·
   rintro aa ww ⟨F,G,hf,hw,H,I,E⟩
   refine WF.run ?_ hf hw
   clear hf hw ww aa
   rw[CG] at E
   refine WF.seq (WF.seq (WF.rp (.inl O) ?_))
   have aw:=ab.mono I
   refine QF.fa O aw AJ.f_Room RA O λb0 ax=>QF.ldl Aa H.1 O ax GV O λay W=>QF.len O W Ea O λb1=>QF.mv O O (AA (kp [101,100,99] O) (WF.blockJ (λa w=>IV B F G (109,[]) a w [] (L) λ_ _=>Di N=some r) ?_ ?_))
   ·
    refine WF.loopF (λn3=>λa w=>∃(s:Int),IV B F G (109,[]) a w [(100,.int .i64 (↑b.Room.length:Int)),(99,ay),(101,.int .i64 s)] (L) λ_ _=>AB s∧CE N b (Di N) n3 s=some r) N ?_ ?_ ?_
    ·
     intro aa ww hf hw
     exact⟨0,_,_,hf.sub (kp [100,99,101] O),hw,H,(BO.refl F G),(iq (n:=0) O),E⟩
    ·
     rintro aa ww ⟨_,_,_,_,_,_,_,_,E⟩
     rw[CE] at E;cases E
    ·
     rintro n3 aa ww ⟨s,b2,b3,hf,hw,t,x,b4,E⟩
     refine WF.run ?_ hf hw
     clear hf hw ww aa
     rw[CE] at E
     refine WF.seq (WF.rp (.inl O) (QF.lss O O O (AA (kp [102,100,99,101] O) (WF.seq (WF.if_ O (λJ=>?_) (λJ=>?_))))))
     ·
      have E:=Av J E
      refine WF.skip (WF.seq (WF.block (WF.seq (WF.rp (.inl O) ?_))))
      have az:=W.mono' x
      obtain⟨b5,ae,E⟩:=bd E
      refine QF.ixe O O az Ea ae O λb6 a0=>QF.ldi Aa t.1 O a0 AN O λa1=>QF.as_ O O (AA (kp [6,100,99,101] O) (WF.seq (WF.rc (.inl O) t (QF.mv O O ?_))))
      obtain⟨b7,af,E⟩:=bd E
      refine AZ O O O Hr O (λh' o=>BB (St.all h') a1 af) (QF.not O O (Ai (kp [107,100,99,101] O) λb8 K X=>WF.if_ O (λM=>?_) (λM=>?_)))
      ·
       have E:=Av M E
       refine WF.seq (WF.rp (.inl O) (QF.as_ O O (AA (kp [2] O) (WF.ret (λaa ww hf hw=>?_)))))
       cases E
       have ag:=e5.trans (A.trans (I.trans (x.trans X)))
       exact CS hf hw O O ag ⟨O,K⟩
      ·
       have E:=Aw M E
       refine WF.skip (Al (WF.rp (.inl O) (QF.addw O O O (QF.mv O O (AA (kp [101,100,99] O) (WF.nil (λaa ww hf hw=>?_)))))))
       exact⟨(Ar (s+1)),_,_,hf.sub (kp [100,99,101] O),hw,K,(x.trans X),(Au _),E⟩
     ·
      have E:=Aw J E
      refine WF.exit O (λaa ww hf hw=>?_)
      exact⟨_,_,hf.sub KI,hw,t,x,E⟩
   ·
    rintro aa ww ⟨b9,ca,hf,hw,ah,a2,E⟩
    refine WF.run ?_ hf hw
    clear hf hw ww aa
    rw[Di] at E
    refine WF.seq (WF.rp (.inl O) (QF.as_ O O (AA (kp [2] O) (WF.ret (λaa ww hf hw=>?_)))))
    cases E
    have ai:=e5.trans (A.trans (I.trans a2))
    exact CS hf hw O O ai ⟨O,ah⟩
theorem Mp (hs:St S L h) {b:ByteArray}(x:b.size≤maxLen) {r:Bool}(E:Gm N b=some r):
 BP Tryz.prog 140 #[.string b] S h (λv S' h'=>v= .bool r∧St S' (L) h'):=by
 refine Ac (l:=[.string b]) 54 Tryz.func140 O Tryz.ntmps140 O λB=>?_
 rw[Gm] at E
 refine WF.seq (WF.rp (.inl O) (QF.as_ O O (AA (kp [0] O) (WF.seq (WF.seq (WF.rp (.inl O) (QF.mv O O (QF.lens O N5 O (QF.lss O O O (QF.mv O O (QF.cutv 4 12 (.bool ((decide ((↑b.size:Int)<1))||(decide (24<(↑b.size:Int))))) ?_ ?_)))))))))))
 ·
  cases Y:(decide ((↑b.size:Int)<1))
  ·exact QF.gy O O O (QF.mv O O (QF.gy O O O (QF.lens O N5 O (QF.gy O O O (QF.gtr O O O (QF.pick O O O (AH O)))))))
  ·exact AL O O
 refine QF.mv O O (QF.cutv 3 16 (.bool (((decide ((↑b.size:Int)<1))||(decide (24<(↑b.size:Int))))||(b==(ByteArray.mk #[111,117,116])))) ?_ ?_)
 ·
  cases Z:((decide ((↑b.size:Int)<1))||(decide (24<(↑b.size:Int))))
  ·exact QF.gy O O O (QF.mv O O (QF.gy O O O (QF.eqstr O O O (QF.pick O O O (AH O)))))
  ·exact AL O O
 refine QF.mv O O ?_
 obtain⟨z,d,E⟩:=bd E
 refine QF.cutv 4 21 (.bool z) ?_ ?_
 ·
  cases A:(((decide ((↑b.size:Int)<1))||(decide (24<(↑b.size:Int))))||(b==(ByteArray.mk #[111,117,116])))
  ·
   have d:=Aw A d
   refine QF.gy O O O (QF.mv O O (QF.gy O O O ?_))
   obtain⟨z5,s,d⟩:=bd d
   have r6:=MR s
   refine QF.bixk O O N5 s O (QF.gy O O O (QF.lss O O O (QF.pick O O O ?_)))
   cases d
   exact AH O
  ·
   have d:=Av A d
   cases d
   exact AL O O
 refine QF.mv O O ?_
 obtain⟨F,g,E⟩:=bd E
 refine QF.cutv 4 26 (.bool F) ?_ ?_
 ·
  cases C:z
  ·
   have g:=Aw C g
   refine QF.gy O O O (QF.mv O O (QF.gy O O O ?_))
   obtain⟨z9,t,g⟩:=bd g
   have G:=MR t
   refine QF.bixk O O N5 t O (QF.gy O O O (QF.gtr O O O (QF.pick O O O ?_)))
   cases g
   exact AH O
  ·
   have g:=Av C g
   cases g
   exact AL O O
 refine AA (kp [26,0] O) (WF.if_ O (λm=>?_) (λm=>?_))
 ·
  have E:=Av m E
  refine WF.seq (WF.rp (.inl O) (QF.as_ O O (AA (kp [2] O) (WF.ret (λaa ww hf hw=>?_)))))
  cases E
  exact CS hf hw O O (BO.refl S h) ⟨O,hs⟩
 ·
  have E:=Aw m E
  refine WF.skip (WF.seq (WF.seq (WF.rp (.inl O) (QF.as_ O O (AA (kp [3,0] O) (WF.blockJ (λa w=>IV B S h (54,[]) a w [] (L) λ_ _=>Ej N=some r) ?_ ?_))))))
  ·
   refine WF.loopF (λD=>λa w=>∃(i:Int),IV B S h (54,[]) a w [(0,.string b),(3,.int .i64 i)] (L) λ_ _=>AB i∧C8 N b (Ej N) D i=some r) N ?_ ?_ ?_
   ·
    intro aa ww hf hw
    exact⟨1,_,_,hf.sub (kp [0,3] O),hw,hs,(BO.refl S h),(iq (n:=1) O),E⟩
   ·
    rintro aa ww ⟨_,_,_,_,_,_,_,_,E⟩
    rw[C8] at E;cases E
   ·
    rintro D aa ww ⟨i,H,I,hf,hw,j,o,J,E⟩
    refine WF.run ?_ hf hw
    clear hf hw ww aa
    rw[C8] at E
    refine WF.seq (WF.seq (WF.rp (.inl O) (QF.mv O O (QF.mv O O (QF.lens O N5 O (QF.lss O O O (AA (kp [30,0,3] O) (WF.if_ O (λp=>?_) (λp=>?_)))))))))
    ·
     have E:=Av p E
     refine WF.skip (WF.seq (WF.block (WF.seq (WF.rp (.inl O) (QF.mv O O (QF.mv O O ?_))))))
     obtain⟨c,k,E⟩:=bd E
     have K:=MR k
     refine QF.bixk O O N5 k O (QF.as_ O O (AA (kp [4,0,3] O) (WF.seq (WF.rp (.inl O) (QF.mv O O (QF.lss O O O (QF.mv O O (QF.cutv 3 41 (.bool ((decide (c<97))||(decide (122<c)))) ?_ ?_))))))))
     ·
      cases M:(decide (c<97))
      ·exact QF.gy O O O (QF.mv O O (QF.gy O O O (QF.gtr O O O (QF.pick O O O (AH O)))))
      ·exact AL O O
     refine QF.mv O O (QF.cutv 7 49 (.bool (((decide (c<97))||(decide (122<c)))&&((decide (c<48))||(decide (57<c))))) ?_ ?_)
     ·
      cases Q:((decide (c<97))||(decide (122<c)))
      ·exact AL O O
      ·
       refine QF.gy O O O (QF.mv O O (QF.gy O O O (QF.lss O O O (QF.gy O O O (QF.mv O O (QF.cutv 3 48 (.bool ((decide (c<48))||(decide (57<c)))) ?_ ?_))))))
       ·
        cases U:(decide (c<48))
        ·exact QF.gy O O O (QF.mv O O (QF.gy O O O (QF.gtr O O O (QF.gy O O O (QF.pick O O O (AH O))))))
        ·exact AL O O
       exact QF.pick O O O (AH O)
     refine QF.mv O O (QF.cutv 3 53 (.bool ((((decide (c<97))||(decide (122<c)))&&((decide (c<48))||(decide (57<c))))&&(decide (c≠95)))) ?_ ?_)
     ·
      cases V:(((decide (c<97))||(decide (122<c)))&&((decide (c<48))||(decide (57<c))))
      ·exact AL O O
      ·exact QF.gy O O O (QF.mv O O (QF.gy O O O (QF.neq O O O (QF.pick O O O (AH O)))))
     refine AA (kp [53,0,3] O) (WF.if_ O (λq=>?_) (λq=>?_))
     ·
      have E:=Av q E
      refine WF.seq (WF.rp (.inl O) (QF.as_ O O (AA (kp [2] O) (WF.ret (λaa ww hf hw=>?_)))))
      cases E
      exact CS hf hw O O o ⟨O,j⟩
     ·
      have E:=Aw q E
      refine WF.skip (Al (WF.rp (.inl O) (QF.mv O O (QF.addw O O O (QF.as_ O O (AA (kp [3,0] O) (WF.nil (λaa ww hf hw=>?_))))))))
      exact⟨(Ar (i+1)),_,_,hf.sub (kp [0,3] O),hw,j,o,(Au _),E⟩
    ·
     have E:=Aw p E
     refine WF.exit O (λaa ww hf hw=>?_)
     exact⟨_,_,hf.sub KI,hw,j,o,E⟩
  ·
   rintro aa ww ⟨W,X,hf,hw,u,y,E⟩
   refine WF.run ?_ hf hw
   clear hf hw ww aa
   rw[Ej] at E
   refine WF.seq (WF.rp (.inl O) (QF.as_ O O (AA (kp [2] O) (WF.ret (λaa ww hf hw=>?_)))))
   cases E
   exact CS hf hw O O y ⟨O,u⟩
theorem NA {c:Nat}{d:(List (AG×Bool))}(hs:St S (MP (λk:AG=>Value.agg (AG.v k).toArray) Value.bool c d::L) h) {g:ByteArray}(i:g.size≤maxLen) {b:ByteArray}(j:b.size≤maxLen) {r:Bool×(List (AG×Bool))}(E:HC N d g b=some r):
 BP Tryz.prog 88 #[.map (some c),.string g,.string b] S h (λv S' h'=>v= .bool r.1∧St S' (MP (λk:AG=>Value.agg (AG.v k).toArray) Value.bool c r.2::L) h'):=by
 refine Ac (l:=[.map (some c),.string g,.string b]) 23 Tryz.func88 O Tryz.ntmps88 O λB=>?_
 rw[HC] at E
 refine WF.seq (WF.rp (.inl O) (QF.as_ O O (AA (kp [0,1,2] O) (WF.seq (WF.seq (WF.rp (.inl O) (QF.mv O O (QF.eqstr O O O (AA (kp [9,0,1,2] O) (WF.cut (λa w=>∃(m:ByteArray),IV B S h (23,[]) a w [(0,.map (some c)),(2,.string b),(1,.string m)] (MP (λk:AG=>Value.agg (AG.v k).toArray) Value.bool c d::L) λ_ _=>m.size≤maxLen∧E5 N d b m=some r) ?_ ?_))))))))))
 ·
  refine WF.if_ O (λK=>?_) (λK=>?_)
  ·
   have E:=Av K E
   refine WF.rp (.inl O) (QF.as_ O O (AA (kp [1,0,2] O) (WF.nil (λaa ww hf hw=>?_))))
   exact⟨(ByteArray.mk #[116,111,119,110]),_,_,hf.sub (kp [0,2,1] O),hw,hs,(BO.refl S h),(by decide),E⟩
  ·
   have E:=Aw K E
   refine WF.skip (WF.nil (λaa ww hf hw=>?_))
   exact⟨g,_,_,hf.sub (kp [0,2,1] O),hw,hs,(BO.refl S h),i,E⟩
 ·
  rintro aa ww ⟨m,Z,h5,hf,hw,M,U,r2,E⟩
  refine WF.run ?_ hf hw
  clear hf hw ww aa
  rw[E5] at E
  refine WF.seq (WF.rl (LF.q 3 (QF.mv O O (QF.mv O O (QF.bld (cs:=[.string m,.string b]) Vj O O O (AE (LF.al VT O M λb8 h9 t u=>Aj (vs:=[.string m,.string b]) O O O O QC O t .head O λV n y=>LF.nil (kp [7,0,2] O) (WF.seq (WF.seq (WF.rc (.inl O) n (QF.mv O O ?_)))))))))))
  obtain⟨A,C,E⟩:=bd E
  refine AZ O O O WO O (λh' o=>Mp (St.all h') j C) (QF.not O O (QF.mv O O (QF.cutv 4 20 (.bool ((!A)||((HR (λk:AG=>Value.agg (AG.v k).toArray) d (⟨m,b⟩:AG)).getD false))) ?_ ?_)))
  ·
   cases W:(!A)
   ·exact QF.gy O O O (QF.mv O O (QF.gy O O O (QF.ldo (vs:=[.string m,.string b]) Ak n O mh O O QC O O (QF.gy O O O (PD (k0:=(⟨m,b⟩:AG)) (z:=false) Ak n (mt mh) O O SC Q2 Ws O O (QF.pick O O O (AH O)))))))
   ·exact AL O O
  refine Ai (kp [20,7,0] O) λX p D=>WF.if_ O (λs=>?_) (λs=>?_)
  ·
   have E:=Av s E
   refine WF.seq (WF.rp (.inl O) (QF.as_ O O (AA (kp [6] O) (WF.ret (λaa ww hf hw=>?_)))))
   have F:=p.sel [1] 1 O
   cases E
   have G:=U.trans (u.trans (y.trans D))
   exact CS hf hw O O G ⟨O,F⟩
  ·
   have E:=Aw s E
   refine WF.skip (WF.seq (WF.rl (LF.q 2 (QF.mv O O (QF.ldo (vs:=[.string m,.string b]) Aa p O mh O O QC O O (AE (Qb (k0:=(⟨m,b⟩:AG)) (x:=true) p (.tail .head) O O O SC Q2 λY H Q=>LF.nil KI (WF.seq (WF.rp (.inl O) (QF.as_ O O (AA (kp [6] O) (WF.ret (λaa ww hf hw=>?_)))))))))))))
   have I:=H.sel [1] 1 O
   cases E
   have J:=U.trans (u.trans (y.trans (D.trans Q)))
   exact CS hf hw O O J ⟨O,I⟩
theorem CQ {d:Nat}{c2_:(List (AG×Bool))}{a:Nat}{g:Nat}{c3_:Bool}(hs:St S (Bx d 154 [.map (some a)]::MP (λk:AG=>Value.agg (AG.v k).toArray) Value.bool a c2_::Bx g 4 [.bool c3_]::L) h) {b:ByteArray}(i:b.size≤maxLen) {c:ByteArray}(j:c.size≤maxLen) {r:(List (AG×Bool))×Bool}(E:BR N c2_ c3_ b c=some r):
 BP Tryz.prog 87 #[.string b,.string c,.pointer (some ⟨d,0,none⟩),.pointer (some ⟨g,0,none⟩)] S h (λv S' h'=>v= .tuple #[]∧St S' (Bx d 154 [.map (some a)]::MP (λk:AG=>Value.agg (AG.v k).toArray) Value.bool a r.1::Bx g 4 [.bool r.2]::L) h'):=by
 refine Ac (l:=[.string b,.string c,.pointer (some ⟨d,0,none⟩),.pointer (some ⟨g,0,none⟩)]) 13 Tryz.func87 O Tryz.ntmps87 O λB=>?_
 rw[BR] at E
 refine WF.rl (LF.q 3 (AI Aa hs O mh O SL O (QF.mv O O (QF.mv O O (AE ?_)))))
 have s:=hs.pick (.tail .head)
 obtain⟨t,u,E⟩:=bd E
 refine LF.call O O O Xz O (NA s i j u) λy z A x p=>?_
 obtain⟨rfl,m⟩:=p
 refine LF.q 3 (QF.mv O O (QF.cutv 2 12 (.bool (t.1&&c3_)) ?_ ?_))
 ·
  cases C:t.1
  ·exact AL O O
  ·exact QF.gy O O O (AI Aa m O (mt (mt mh)) O Kd O (QF.pick O O O (AH O)))
 refine AE (Aj (vs:=[.bool (t.1&&c3_)]) O O O O Kd O m (.tail (.tail .head)) O λD n w=>LF.nil KI (WF.nil (λaa ww hf hw=>?_)))
 have o:=n.sel [1,0,0] 0 O
 cases E
 exact Hb hf O hw HW O (x.trans w) ⟨O,o⟩
theorem K1 (hs:St S L h) {s:Value}{c:AJ}(bt:Rd S h A3 s c) {r:Bool}(E:GC N c=some r):
 BP Tryz.prog 37 #[s] S h (λv S' h'=>v= .bool r∧St S' (L) h'):=by
 refine Ac (l:=[s]) 106 Tryz.func37 O Tryz.ntmps37 O λB=>?_
 rw[GC] at E
 refine WF.seq (WF.rl (LF.boxp O bt (λe=>by cases e) O hs λq1 S2 h3 gr e5 k6=>LF.q 1 (QF.as_ O O (AE (LF.nil (kp [1] O) (WF.seq (WF.rl (Qc (K:=0) (E:=0) O gr (λk:AG=>Value.agg (AG.v k).toArray) Value.bool λj h8 gs ed=>LF.al Va O gs λg ki ee ef=>Aj (vs:=[.map (some j)]) O O O O SL O ee .head O λkj eg eh=>LF.nil (kp [3,1] O) (WF.seq ?_)))))))))
 refine WF.rl (LF.al Wu O eg λd kk ei ej=>Aj (vs:=[.bool true]) O O O O Kd O ei .head O λcy bz ek=>LF.nil (kp [4,3,1] O) (WF.seq (WF.rp (.inl O) (QF.mkf O O O (QF.as_ O O (AA (kp [5,4,1] O) (WF.seq (WF.seq (WF.rp (.inl O) ?_)))))))))
 have el:=ed.trans (ef.trans (eh.trans (ej.trans ek)))
 have em:=k6.mono el
 refine QF.fa O em Ct Hf O λkl gu=>QF.ldl Aa bz.1 O gu Ke O λgv en=>QF.len O en J5 O λkm=>QF.mv O O (AA (kp [25,24,23,5,4,1] O) (WF.blockJ (λa w=>∃(bu:Bool) (bv:(List (AG×Bool))),IV B S2 cy (106,[]) a w [(5,.func (.func 87) #[] #[.pointer (some ⟨g,0,none⟩),.pointer (some ⟨d,0,none⟩)]),(4,.pointer (some ⟨d,0,none⟩)),(1,q1)] (Bx d 4 [.bool bu]::Bx g 154 [.map (some j)]::MP (λk:AG=>Value.agg (AG.v k).toArray) Value.bool j bv::L) λ_ _=>Cd N c bu bv=some r) ?_ ?_))
 ·
  refine WF.loopF (λn1=>λa w=>∃(aj:Int) (ak:Bool) (am:(List (AG×Bool))),IV B S2 cy (106,[]) a w [(24,.int .i64 (↑c.Owners.length:Int)),(23,gv),(5,.func (.func 87) #[] #[.pointer (some ⟨g,0,none⟩),.pointer (some ⟨d,0,none⟩)]),(4,.pointer (some ⟨d,0,none⟩)),(1,q1),(25,.int .i64 aj)] (Bx d 4 [.bool ak]::Bx g 154 [.map (some j)]::MP (λk:AG=>Value.agg (AG.v k).toArray) Value.bool j am::L) λ_ _=>AB aj∧Bf N c (Cd N c) n1 aj ak am=some r) N ?_ ?_ ?_
  ·
   intro aa ww hf hw
   exact⟨0,true,([]:(List (AG×Bool))),_,_,hf.sub (kp [24,23,5,4,1,25] O),hw,bz,(BO.refl S2 cy),(iq (n:=0) O),E⟩
  ·
   rintro aa ww ⟨_,_,_,_,_,_,_,_,_,_,E⟩
   rw[Bf] at E;cases E
  ·
   rintro n1 aa ww ⟨aj,ak,am,kn,ko,hf,hw,an,cz,kq,E⟩
   refine WF.run ?_ hf hw
   clear hf hw ww aa
   rw[Bf] at E
   refine WF.seq (WF.rp (.inl O) (QF.lss O O O (AA (kp [26,24,23,5,4,1,25] O) (WF.seq (WF.if_ O (λc0=>?_) (λc0=>?_))))))
   ·
    have E:=Av c0 E
    refine WF.skip (WF.seq (WF.block (WF.seq (WF.rp (.inl O) ?_))))
    have gw:=en.mono' cz
    obtain⟨kr,eo,E⟩:=bd E
    refine QF.ixe O O gw J5 eo O λks gx=>QF.lds Aa an.1 O gx N6 O λgz=>QF.as_ O O (AA (kp [7,24,23,5,4,1,25] O) (WF.rl (LF.q 2 (QF.mv O O (QF.mv O O (AE ?_))))))
    have ep:=an.sel [1,1,0] 0 O
    obtain⟨eq,er,E⟩:=bd E
    refine LF.call O O O Nt O (CQ (c2_:=am) (c3_:=ak) ep (by decide) gz er) λkt ku kv g0 p=>?_
    obtain⟨rfl,es⟩:=p
    refine LF.nil (kp [24,23,5,4,1,25] O) (Al (WF.rp (.inl O) (QF.addw O O O (QF.mv O O (AA (kp [25,24,23,5,4,1] O) (WF.nil (λaa ww hf hw=>?_)))))))
    have et:=es.sel [2,0,0] 0 O
    exact⟨(Ar (aj+1)),eq.2,eq.1,_,_,hf.sub (kp [24,23,5,4,1,25] O),hw,et,(cz.trans g0),(Au _),E⟩
   ·
    have E:=Aw c0 E
    refine WF.exit O (λaa ww hf hw=>?_)
    exact⟨ak,am,_,_,hf.sub (kp [5,4,1] O),hw,an,cz,E⟩
 ·
  rintro aa ww ⟨bu,bv,c1,c2,hf,hw,b0,eu,E⟩
  refine WF.run ?_ hf hw
  clear hf hw ww aa
  rw[Cd] at E
  refine WF.seq (WF.seq (WF.rp (.inl O) ?_))
  have ev:=em.mono eu
  refine QF.fa O ev Ah Bs O λkw g1=>QF.ldl Aa b0.1 O g1 EY O λg2 ew=>QF.len O ew Dk O λkx=>QF.mv O O (AA (kp [36,35,34,5,4,1] O) (WF.blockJ (λa w=>∃(bw:Bool) (bx:(List (AG×Bool))),IV B c1 c2 (106,[]) a w [(5,.func (.func 87) #[] #[.pointer (some ⟨g,0,none⟩),.pointer (some ⟨d,0,none⟩)]),(4,.pointer (some ⟨d,0,none⟩)),(1,q1)] (Bx d 4 [.bool bw]::Bx g 154 [.map (some j)]::MP (λk:AG=>Value.agg (AG.v k).toArray) Value.bool j bx::L) λ_ _=>Cc N c bw bx=some r) ?_ ?_))
  ·
   refine WF.loopF (λn3=>λa w=>∃(ao:Int) (ap:Bool) (aq:(List (AG×Bool))),IV B c1 c2 (106,[]) a w [(35,.int .i64 (↑c.Places.length:Int)),(34,g2),(5,.func (.func 87) #[] #[.pointer (some ⟨g,0,none⟩),.pointer (some ⟨d,0,none⟩)]),(4,.pointer (some ⟨d,0,none⟩)),(1,q1),(36,.int .i64 ao)] (Bx d 4 [.bool ap]::Bx g 154 [.map (some j)]::MP (λk:AG=>Value.agg (AG.v k).toArray) Value.bool j aq::L) λ_ _=>AB ao∧Be N c (Cc N c) n3 ao ap aq=some r) N ?_ ?_ ?_
   ·
    intro aa ww hf hw
    exact⟨0,bu,bv,_,_,hf.sub (kp [35,34,5,4,1,36] O),hw,b0,(BO.refl c1 c2),(iq (n:=0) O),E⟩
   ·
    rintro aa ww ⟨_,_,_,_,_,_,_,_,_,_,E⟩
    rw[Be] at E;cases E
   ·
    rintro n3 aa ww ⟨ao,ap,aq,ky,kz,hf,hw,ar,c3,k0,E⟩
    refine WF.run ?_ hf hw
    clear hf hw ww aa
    rw[Be] at E
    refine WF.seq (WF.rp (.inl O) (QF.lss O O O (AA (kp [37,35,34,5,4,1,36] O) (WF.seq (WF.if_ O (λc4=>?_) (λc4=>?_))))))
    ·
     have E:=Av c4 E
     refine WF.skip (WF.seq (WF.block (WF.seq (WF.rl (LF.q 2 ?_)))))
     have g3:=ew.mono' c3
     obtain⟨i,ey,E⟩:=bd E
     refine QF.ixe O O g3 Dk ey O λk1 g4=>QF.ld Aa ar.1 O g4 HV (λe=>by cases e) O λk2 g5=>AE (LF.al Lw O ar λk3 k4 ez e0=>?_)
     have g6:=g5.mono e0
     obtain⟨b1,b2,b3,rfl,g7,k5,k7,g8,e1,e2,g9,ha,hb,hc,hd,e3⟩:=A7.ex g6
     refine LF.st (vs:=[.string i.Name,.int .i64 i.Kind,.int .i64 i.Office,.int .i64 i.Cap,b1,b2,.int .i64 i.Num,.int .i64 i.Den,.int .i64 i.Down,.int .i64 i.Delay,.int .i64 i.Floor,b3]) (cs':=[.string i.Name,.int .i64 i.Kind,.int .i64 i.Office,.int .i64 i.Cap,b1,b2,.int .i64 i.Num,.int .i64 i.Den,.int .i64 i.Down,.int .i64 i.Delay,.int .i64 i.Floor,b3]) O O O (AC O (AC O (AC O (AC O (AC e1.one (AC e2.one (AC O (AC O (AC O (AC O (AC O (AC e3.one C6)))))))))))) HV O ez .head O O λhe au e4=>LF.nil (kp [9,35,34,5,4,1,36] O) (WF.rl (LF.q 3 (QF.mv O O (QF.fao O Up O (AI Aa au O mh O N6 O (AE ?_))))))
     have c5:=au.sel [2,2,1,0] 0 O
     obtain⟨b4,c6,E⟩:=bd E
     refine LF.call O O O Nt O (CQ (c2_:=aq) (c3_:=ap) c5 (by decide) g7 c6) λhg hh hi e6 p=>?_
     obtain⟨rfl,c7⟩:=p
     refine LF.nil (kp [35,34,5,4,1,36] O) (Al (WF.rp (.inl O) (QF.addw O O O (QF.mv O O (AA (kp [36,35,34,5,4,1] O) (WF.nil (λaa ww hf hw=>?_)))))))
     have c8:=c7.sel [2,0,0] 1 O
     have c9:=c3.trans (e0.trans (e4.trans e6))
     exact⟨(Ar (ao+1)),b4.2,b4.1,_,_,hf.sub (kp [35,34,5,4,1,36] O),hw,c8,c9,(Au _),E⟩
    ·
     have E:=Aw c4 E
     refine WF.exit O (λaa ww hf hw=>?_)
     exact⟨ap,aq,_,_,hf.sub (kp [5,4,1] O),hw,ar,c3,E⟩
  ·
   rintro aa ww ⟨bw,bx,av,aw,hf,hw,ax,b5,E⟩
   refine WF.run ?_ hf hw
   clear hf hw ww aa
   rw[Cc] at E
   refine WF.seq (WF.seq (WF.rp (.inl O) ?_))
   have b6:=ev.mono b5
   refine QF.fa O b6 AJ.f_Links EE O λhj e7=>QF.ldl Aa ax.1 O e7 G7 O λe8 b8=>QF.len O b8 FT O λhk=>QF.mv O O (AA (kp [48,47,46,5,4,1] O) (WF.blockJ (λa w=>∃(Z:Bool) (ab:(List (AG×Bool))),IV B av aw (106,[]) a w [(5,.func (.func 87) #[] #[.pointer (some ⟨g,0,none⟩),.pointer (some ⟨d,0,none⟩)]),(4,.pointer (some ⟨d,0,none⟩)),(1,q1)] (Bx d 4 [.bool Z]::Bx g 154 [.map (some j)]::MP (λk:AG=>Value.agg (AG.v k).toArray) Value.bool j ab::L) λ_ _=>Cb N c Z ab=some r) ?_ ?_))
   ·
    refine WF.loopF (λn5=>λa w=>∃(t:Int) (u:Bool) (x:(List (AG×Bool))),IV B av aw (106,[]) a w [(47,.int .i64 (↑c.Links.length:Int)),(46,e8),(5,.func (.func 87) #[] #[.pointer (some ⟨g,0,none⟩),.pointer (some ⟨d,0,none⟩)]),(4,.pointer (some ⟨d,0,none⟩)),(1,q1),(48,.int .i64 t)] (Bx d 4 [.bool u]::Bx g 154 [.map (some j)]::MP (λk:AG=>Value.agg (AG.v k).toArray) Value.bool j x::L) λ_ _=>AB t∧Bd N c (Cb N c) n5 t u x=some r) N ?_ ?_ ?_
    ·
     intro aa ww hf hw
     exact⟨0,bw,bx,_,_,hf.sub (kp [47,46,5,4,1,48] O),hw,ax,(BO.refl av aw),(iq (n:=0) O),E⟩
    ·
     rintro aa ww ⟨_,_,_,_,_,_,_,_,_,_,E⟩
     rw[Bd] at E;cases E
    ·
     rintro n5 aa ww ⟨t,u,x,hl,hm,hf,hw,U,ay,hn,E⟩
     refine WF.run ?_ hf hw
     clear hf hw ww aa
     rw[Bd] at E
     refine WF.seq (WF.rp (.inl O) (QF.lss O O O (AA (kp [49,47,46,5,4,1,48] O) (WF.seq (WF.if_ O (λaz=>?_) (λaz=>?_))))))
     ·
      have E:=Av az E
      refine WF.skip (WF.seq (WF.block (WF.seq (WF.rl (LF.q 2 ?_)))))
      have e9:=b8.mono' ay
      obtain⟨b,da,E⟩:=bd E
      refine QF.ixe O O e9 FT da O λho fb=>QF.ld Aa U.1 O fb C3 (λe=>by cases e) O λhp fc=>AE (LF.al KX O U λhq hr db b9=>?_)
      have fd:=fc.mono b9
      obtain⟨ca,cb,cc,rfl,fe,ht,hu,hv,ff,fg,fh,hx,hy,hz,h0,h1,h2,h4,h5,h6,h7,h9⟩:=A0.ex fd
      refine LF.st (vs:=[.string b.Name,.int .i64 b.Kind,.int .i64 b.From,.int .i64 b.To,ca,cb,cc,.int .i64 b.Positions,.int .i64 b.Speed,.int .i64 b.Leak,.int .i64 b.Crest,.int .i64 b.Num,.int .i64 b.Den,.int .i64 b.Prime,.int .i64 b.Break,.int .i64 b.BackNum,.int .i64 b.BackDen,.int .i64 b.Delay]) (cs':=[.string b.Name,.int .i64 b.Kind,.int .i64 b.From,.int .i64 b.To,ca,cb,cc,.int .i64 b.Positions,.int .i64 b.Speed,.int .i64 b.Leak,.int .i64 b.Crest,.int .i64 b.Num,.int .i64 b.Den,.int .i64 b.Prime,.int .i64 b.Break,.int .i64 b.BackNum,.int .i64 b.BackDen,.int .i64 b.Delay]) O O O (AC O (AC O (AC O (AC O (AC ff.one (AC fg.one (AC fh.one (AC O (AC O (AC O (AC O (AC O (AC O (AC O (AC O (AC O (AC O (AC O C6)))))))))))))))))) C3 O db .head O O λia a0 fi=>LF.nil (kp [11,47,46,5,4,1,48] O) (WF.rl (LF.q 3 (QF.mv O O (QF.fao O Td O (AI Aa a0 O mh O N6 O (AE ?_))))))
      have dc:=a0.sel [2,2,1,0] 0 O
      obtain⟨cd,dd,E⟩:=bd E
      refine LF.call O O O Nt O (CQ (c2_:=x) (c3_:=u) dc (by decide) fe dd) λib ic id fj p=>?_
      obtain⟨rfl,de⟩:=p
      refine LF.nil (kp [47,46,5,4,1,48] O) (Al (WF.rp (.inl O) (QF.addw O O O (QF.mv O O (AA (kp [48,47,46,5,4,1] O) (WF.nil (λaa ww hf hw=>?_)))))))
      have df:=de.sel [2,0,0] 1 O
      have dg:=ay.trans (b9.trans (fi.trans fj))
      exact⟨(Ar (t+1)),cd.2,cd.1,_,_,hf.sub (kp [47,46,5,4,1,48] O),hw,df,dg,(Au _),E⟩
     ·
      have E:=Aw az E
      refine WF.exit O (λaa ww hf hw=>?_)
      exact⟨u,x,_,_,hf.sub (kp [5,4,1] O),hw,U,ay,E⟩
   ·
    rintro aa ww ⟨Z,ab,a1,a2,hf,hw,a3,ce,E⟩
    refine WF.run ?_ hf hw
    clear hf hw ww aa
    rw[Cb] at E
    refine WF.seq (WF.seq (WF.rp (.inl O) ?_))
    have cf:=b6.mono ce
    refine QF.fa O cf Gp MJ O λie fk=>QF.ldl Aa a3.1 O fk PT O λfl cg=>QF.len O cg NT O λig=>QF.mv O O (AA (kp [60,59,58,5,4,1] O) (WF.blockJ (λa w=>∃(ac:Bool) (ad:(List (AG×Bool))),IV B a1 a2 (106,[]) a w [(5,.func (.func 87) #[] #[.pointer (some ⟨g,0,none⟩),.pointer (some ⟨d,0,none⟩)]),(4,.pointer (some ⟨d,0,none⟩)),(1,q1)] (Bx d 4 [.bool ac]::Bx g 154 [.map (some j)]::MP (λk:AG=>Value.agg (AG.v k).toArray) Value.bool j ad::L) λ_ _=>Ca N c ac ad=some r) ?_ ?_))
    ·
     refine WF.loopF (λn7=>λa w=>∃(y:Int) (z:Bool) (A:(List (AG×Bool))),IV B a1 a2 (106,[]) a w [(59,.int .i64 (↑c.Towns.length:Int)),(58,fl),(5,.func (.func 87) #[] #[.pointer (some ⟨g,0,none⟩),.pointer (some ⟨d,0,none⟩)]),(4,.pointer (some ⟨d,0,none⟩)),(1,q1),(60,.int .i64 y)] (Bx d 4 [.bool z]::Bx g 154 [.map (some j)]::MP (λk:AG=>Value.agg (AG.v k).toArray) Value.bool j A::L) λ_ _=>AB y∧Bc N c (Ca N c) n7 y z A=some r) N ?_ ?_ ?_
     ·
      intro aa ww hf hw
      exact⟨0,Z,ab,_,_,hf.sub (kp [59,58,5,4,1,60] O),hw,a3,(BO.refl a1 a2),(iq (n:=0) O),E⟩
     ·
      rintro aa ww ⟨_,_,_,_,_,_,_,_,_,_,E⟩
      rw[Bc] at E;cases E
     ·
      rintro n7 aa ww ⟨y,z,A,ih,ii,hf,hw,V,a4,ij,E⟩
      refine WF.run ?_ hf hw
      clear hf hw ww aa
      rw[Bc] at E
      refine WF.seq (WF.rp (.inl O) (QF.lss O O O (AA (kp [61,59,58,5,4,1,60] O) (WF.seq (WF.if_ O (λa5=>?_) (λa5=>?_))))))
      ·
       have E:=Av a5 E
       refine WF.skip (WF.seq (WF.block (WF.seq (WF.rl (LF.q 2 ?_)))))
       have fm:=cg.mono' a4
       obtain⟨m,dh,E⟩:=bd E
       refine QF.ixe O O fm NT dh O λik fn=>QF.ld Aa V.1 O fn Oe (λe=>by cases e) O λil fo=>AE (LF.al R4 O V λim io di ch=>?_)
       have fp:=fo.mono ch
       obtain⟨rfl,⟨fq,ip,ir,it,iu,iv,iw⟩⟩:=FI.ex fp
       refine Aj (vs:=[.string m.Name,.int .i64 m.Place,.int .i64 m.Flood,.int .i64 m.Lead,.int .i64 m.People,.int .i64 m.Watch,.int .i64 m.Quorum]) O O O O Oe O di .head O λiy a6 fr=>LF.nil (kp [13,59,58,5,4,1,60] O) (WF.rl (LF.q 3 (QF.mv O O (QF.fao O Tc O (AI Aa a6 O mh O N6 O (AE ?_))))))
       have dj:=a6.sel [2,2,1,0] 0 O
       obtain⟨ci,dk,E⟩:=bd E
       refine LF.call O O O Nt O (CQ (c2_:=A) (c3_:=z) dj (by decide) fq dk) λiz i0 i1 fs p=>?_
       obtain⟨rfl,dl⟩:=p
       refine LF.nil (kp [59,58,5,4,1,60] O) (Al (WF.rp (.inl O) (QF.addw O O O (QF.mv O O (AA (kp [60,59,58,5,4,1] O) (WF.nil (λaa ww hf hw=>?_)))))))
       have dm:=dl.sel [2,0,0] 1 O
       have dn:=a4.trans (ch.trans (fr.trans fs))
       exact⟨(Ar (y+1)),ci.2,ci.1,_,_,hf.sub (kp [59,58,5,4,1,60] O),hw,dm,dn,(Au _),E⟩
      ·
       have E:=Aw a5 E
       refine WF.exit O (λaa ww hf hw=>?_)
       exact⟨z,A,_,_,hf.sub (kp [5,4,1] O),hw,V,a4,E⟩
    ·
     rintro aa ww ⟨ac,ad,a7,a8,hf,hw,a9,cj,E⟩
     refine WF.run ?_ hf hw
     clear hf hw ww aa
     rw[Ca] at E
     refine WF.seq (WF.seq (WF.rp (.inl O) ?_))
     have ck:=cf.mono cj
     refine QF.fa O ck GZ NM O λi2 ft=>QF.ldl Aa a9.1 O ft Qn O λfu cl=>QF.len O cl OG O λi3=>QF.mv O O (AA (kp [72,71,70,5,4,1] O) (WF.blockJ (λa w=>∃(ae:Bool) (af:(List (AG×Bool))),IV B a7 a8 (106,[]) a w [(5,.func (.func 87) #[] #[.pointer (some ⟨g,0,none⟩),.pointer (some ⟨d,0,none⟩)]),(4,.pointer (some ⟨d,0,none⟩)),(1,q1)] (Bx d 4 [.bool ae]::Bx g 154 [.map (some j)]::MP (λk:AG=>Value.agg (AG.v k).toArray) Value.bool j af::L) λ_ _=>CZ N c ae af=some r) ?_ ?_))
     ·
      refine WF.loopF (λn9=>λa w=>∃(C:Int) (D:Bool) (F:(List (AG×Bool))),IV B a7 a8 (106,[]) a w [(71,.int .i64 (↑c.Shelters.length:Int)),(70,fu),(5,.func (.func 87) #[] #[.pointer (some ⟨g,0,none⟩),.pointer (some ⟨d,0,none⟩)]),(4,.pointer (some ⟨d,0,none⟩)),(1,q1),(72,.int .i64 C)] (Bx d 4 [.bool D]::Bx g 154 [.map (some j)]::MP (λk:AG=>Value.agg (AG.v k).toArray) Value.bool j F::L) λ_ _=>AB C∧Bb N c (CZ N c) n9 C D F=some r) N ?_ ?_ ?_
      ·
       intro aa ww hf hw
       exact⟨0,ac,ad,_,_,hf.sub (kp [71,70,5,4,1,72] O),hw,a9,(BO.refl a7 a8),(iq (n:=0) O),E⟩
      ·
       rintro aa ww ⟨_,_,_,_,_,_,_,_,_,_,E⟩
       rw[Bb] at E;cases E
      ·
       rintro n9 aa ww ⟨C,D,F,i4,i5,hf,hw,W,ba,i6,E⟩
       refine WF.run ?_ hf hw
       clear hf hw ww aa
       rw[Bb] at E
       refine WF.seq (WF.rp (.inl O) (QF.lss O O O (AA (kp [73,71,70,5,4,1,72] O) (WF.seq (WF.if_ O (λbb=>?_) (λbb=>?_))))))
       ·
        have E:=Av bb E
        refine WF.skip (WF.seq (WF.block (WF.seq (WF.rl (LF.q 2 ?_)))))
        have fv:=cl.mono' ba
        obtain⟨cm,dp,E⟩:=bd E
        refine QF.ixe O O fv OG dp O λi7 fw=>QF.ld Aa W.1 O fw Oc (λe=>by cases e) O λi8 fx=>AE (LF.al R1 O W λi9 ja dq cn=>?_)
        have fy:=fx.mono cn
        obtain⟨rfl,⟨fz,jb⟩⟩:=B9.ex fy
        refine Aj (vs:=[.string cm.Name,.int .i64 cm.Room]) O O O O Oc O dq .head O λjc bc f0=>LF.nil (kp [15,71,70,5,4,1,72] O) (WF.rl (LF.q 3 (QF.mv O O (QF.fao O TR O (AI Aa bc O mh O N6 O (AE ?_))))))
        have dr:=bc.sel [2,2,1,0] 0 O
        obtain⟨co,ds,E⟩:=bd E
        refine LF.call O O O Nt O (CQ (c2_:=F) (c3_:=D) dr (by decide) fz ds) λjd je jf f1 p=>?_
        obtain⟨rfl,dt⟩:=p
        refine LF.nil (kp [71,70,5,4,1,72] O) (Al (WF.rp (.inl O) (QF.addw O O O (QF.mv O O (AA (kp [72,71,70,5,4,1] O) (WF.nil (λaa ww hf hw=>?_)))))))
        have du:=dt.sel [2,0,0] 1 O
        have dv:=ba.trans (cn.trans (f0.trans f1))
        exact⟨(Ar (C+1)),co.2,co.1,_,_,hf.sub (kp [71,70,5,4,1,72] O),hw,du,dv,(Au _),E⟩
       ·
        have E:=Aw bb E
        refine WF.exit O (λaa ww hf hw=>?_)
        exact⟨D,F,_,_,hf.sub (kp [5,4,1] O),hw,W,ba,E⟩
     ·
      rintro aa ww ⟨ae,af,be,bf,hf,hw,bg,cp,E⟩
      refine WF.run ?_ hf hw
      clear hf hw ww aa
      rw[CZ] at E
      refine WF.seq (WF.seq (WF.rp (.inl O) ?_))
      have cq:=ck.mono cp
      refine QF.fa O cq Zq Oz O λjg f2=>QF.ldl Aa bg.1 O f2 SE O λf3 cr=>QF.len O cr Pb O λjh=>QF.mv O O (AA (kp [84,83,82,5,4,1] O) (WF.blockJ (λa w=>∃(ag:Bool) (ah:(List (AG×Bool))),IV B be bf (106,[]) a w [(5,.func (.func 87) #[] #[.pointer (some ⟨g,0,none⟩),.pointer (some ⟨d,0,none⟩)]),(4,.pointer (some ⟨d,0,none⟩)),(1,q1)] (Bx d 4 [.bool ag]::Bx g 154 [.map (some j)]::MP (λk:AG=>Value.agg (AG.v k).toArray) Value.bool j ah::L) λ_ _=>CP N c ag ah=some r) ?_ ?_))
      ·
       refine WF.loopF (λf4=>λa w=>∃(G:Int) (H:Bool) (I:(List (AG×Bool))),IV B be bf (106,[]) a w [(83,.int .i64 (↑c.Gauges.length:Int)),(82,f3),(5,.func (.func 87) #[] #[.pointer (some ⟨g,0,none⟩),.pointer (some ⟨d,0,none⟩)]),(4,.pointer (some ⟨d,0,none⟩)),(1,q1),(84,.int .i64 G)] (Bx d 4 [.bool H]::Bx g 154 [.map (some j)]::MP (λk:AG=>Value.agg (AG.v k).toArray) Value.bool j I::L) λ_ _=>AB G∧BX N c (CP N c) f4 G H I=some r) N ?_ ?_ ?_
       ·
        intro aa ww hf hw
        exact⟨0,ae,af,_,_,hf.sub (kp [83,82,5,4,1,84] O),hw,bg,(BO.refl be bf),(iq (n:=0) O),E⟩
       ·
        rintro aa ww ⟨_,_,_,_,_,_,_,_,_,_,E⟩
        rw[BX] at E;cases E
       ·
        rintro f4 aa ww ⟨G,H,I,ji,jj,hf,hw,X,bh,jk,E⟩
        refine WF.run ?_ hf hw
        clear hf hw ww aa
        rw[BX] at E
        refine WF.seq (WF.rp (.inl O) (QF.lss O O O (AA (kp [85,83,82,5,4,1,84] O) (WF.seq (WF.if_ O (λbi=>?_) (λbi=>?_))))))
        ·
         have E:=Av bi E
         refine WF.skip (WF.seq (WF.block (WF.seq (WF.rl (LF.q 2 ?_)))))
         have f5:=cr.mono' bh
         obtain⟨J,dw,E⟩:=bd E
         refine QF.ixe O O f5 Pb dw O λjl f6=>QF.ld Aa X.1 O f6 Od (λe=>by cases e) O λjm f7=>AE (LF.al R3 O X λjn jo dx cs=>?_)
         have f8:=f7.mono cs
         obtain⟨rfl,⟨f9,jp,jq,jr,js⟩⟩:=C9.ex f8
         refine Aj (vs:=[.string J.Name,.int .i64 J.Kind,.int .i64 J.Target,.int .i64 J.Err,.int .i64 J.Drift]) O O O O Od O dx .head O λjt bj ga=>LF.nil (kp [17,83,82,5,4,1,84] O) (WF.rl (LF.q 3 (QF.mv O O (QF.fao O TV O (AI Aa bj O mh O N6 O (AE ?_))))))
         have dy:=bj.sel [2,2,1,0] 0 O
         obtain⟨ct,dz,E⟩:=bd E
         refine LF.call O O O Nt O (CQ (c2_:=I) (c3_:=H) dy (by decide) f9 dz) λju jv jw gb p=>?_
         obtain⟨rfl,d0⟩:=p
         refine LF.nil (kp [83,82,5,4,1,84] O) (Al (WF.rp (.inl O) (QF.addw O O O (QF.mv O O (AA (kp [84,83,82,5,4,1] O) (WF.nil (λaa ww hf hw=>?_)))))))
         have d1:=d0.sel [2,0,0] 1 O
         have d2:=bh.trans (cs.trans (ga.trans gb))
         exact⟨(Ar (G+1)),ct.2,ct.1,_,_,hf.sub (kp [83,82,5,4,1,84] O),hw,d1,d2,(Au _),E⟩
        ·
         have E:=Aw bi E
         refine WF.exit O (λaa ww hf hw=>?_)
         exact⟨H,I,_,_,hf.sub (kp [5,4,1] O),hw,X,bh,E⟩
      ·
       rintro aa ww ⟨ag,ah,bk,bl,hf,hw,bm,cu,E⟩
       refine WF.run ?_ hf hw
       clear hf hw ww aa
       rw[CP] at E
       refine WF.seq (WF.seq (WF.rp (.inl O) ?_))
       have gc:=cq.mono cu
       refine QF.fa O gc I2 Oy O λjx ge=>QF.ldl Aa bm.1 O ge SD O λgf cv=>QF.len O cv Pa O λjy=>QF.mv O O (AA (kp [96,95,94,5,4] O) (WF.blockJ (λa w=>∃(bn:Bool),IV B bk bl (106,[]) a w [(4,.pointer (some ⟨d,0,none⟩))] (Bx d 4 [.bool bn]::L) λ_ _=>CO N bn=some r) ?_ ?_))
       ·
        refine WF.loopF (λgg=>λa w=>∃(M:Int) (Q:Bool) (ai:(List (AG×Bool))),IV B bk bl (106,[]) a w [(95,.int .i64 (↑c.Roads.length:Int)),(94,gf),(5,.func (.func 87) #[] #[.pointer (some ⟨g,0,none⟩),.pointer (some ⟨d,0,none⟩)]),(4,.pointer (some ⟨d,0,none⟩)),(96,.int .i64 M)] (Bx d 4 [.bool Q]::Bx g 154 [.map (some j)]::MP (λk:AG=>Value.agg (AG.v k).toArray) Value.bool j ai::L) λ_ _=>AB M∧BW N c (CO N) gg M Q ai=some r) N ?_ ?_ ?_
        ·
         intro aa ww hf hw
         exact⟨0,ag,ah,_,_,hf.sub (kp [95,94,5,4,96] O),hw,bm,(BO.refl bk bl),(iq (n:=0) O),E⟩
        ·
         rintro aa ww ⟨_,_,_,_,_,_,_,_,_,_,E⟩
         rw[BW] at E;cases E
        ·
         rintro gg aa ww ⟨M,Q,ai,jz,j0,hf,hw,Y,bo,j1,E⟩
         refine WF.run ?_ hf hw
         clear hf hw ww aa
         rw[BW] at E
         refine WF.seq (WF.rp (.inl O) (QF.lss O O O (AA (kp [97,95,94,5,4,96] O) (WF.seq (WF.if_ O (λbp=>?_) (λbp=>?_))))))
         ·
          have E:=Av bp E
          refine WF.skip (WF.seq (WF.block (WF.seq (WF.rl (LF.q 2 ?_)))))
          have gh:=cv.mono' bo
          obtain⟨o,d3,E⟩:=bd E
          refine QF.ixe O O gh Pa d3 O λj2 gi=>QF.ld Aa Y.1 O gi Ob (λe=>by cases e) O λj3 gj=>AE (LF.al R0 O Y λj4 j5 d4 cw=>?_)
          have gk:=gj.mono cw
          obtain⟨rfl,⟨gl,j6,j7,j8,j9,ka,kb⟩⟩:=FD.ex gk
          refine Aj (vs:=[.string o.Name,.int .i64 o.From,.int .i64 o.To,.int .i64 o.Hours,.int .i64 o.Flow,.int .i64 o.By,.int .i64 o.Limit]) O O O O Ob O d4 .head O λkc bq gm=>LF.nil (kp [19,95,94,5,4,96] O) (WF.rl (LF.q 3 (QF.mv O O (QF.fao O TP O (AI Aa bq O mh O N6 O (AE ?_))))))
          have d5:=bq.sel [2,2,1,0] 0 O
          obtain⟨cx,d6,E⟩:=bd E
          refine LF.call O O O Nt O (CQ (c2_:=ai) (c3_:=Q) d5 (by decide) gl d6) λkd ke kf gp p=>?_
          obtain⟨rfl,d7⟩:=p
          refine LF.nil (kp [95,94,5,4,96] O) (Al (WF.rp (.inl O) (QF.addw O O O (QF.mv O O (AA (kp [96,95,94,5,4] O) (WF.nil (λaa ww hf hw=>?_)))))))
          have d8:=d7.sel [2,0,0] 1 O
          have d9:=bo.trans (cw.trans (gm.trans gp))
          exact⟨(Ar (M+1)),cx.2,cx.1,_,_,hf.sub (kp [95,94,5,4,96] O),hw,d8,d9,(Au _),E⟩
         ·
          have E:=Aw bp E
          refine WF.exit O (λaa ww hf hw=>?_)
          have ea:=Y.sel [0] 2 O
          exact⟨Q,_,_,hf.sub (kp [4] O),hw,ea,bo,E⟩
       ·
        rintro aa ww ⟨bn,kg,kh,hf,hw,br,gq,E⟩
        refine WF.run ?_ hf hw
        clear hf hw ww aa
        rw[CO] at E
        refine WF.seq (WF.rp (.inl O) (AI Aa br O mh O Kd O (QF.as_ O O (AA (kp [2] O) (WF.ret (λaa ww hf hw=>?_))))))
        have eb:=br.drop .head
        cases E
        have ec:=e5.trans (ed.trans (ef.trans (eh.trans (ej.trans (ek.trans (eu.trans (b5.trans (ce.trans (cj.trans (cp.trans (cu.trans gq)))))))))))
        exact CS hf hw O O ec ⟨O,eb⟩
end Go.Proofs.YtibidnaedddfdaaGreat
