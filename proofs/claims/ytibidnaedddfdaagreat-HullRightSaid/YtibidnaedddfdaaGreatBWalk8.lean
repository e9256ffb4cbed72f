import Derived.Test.YtibidnaedddfdaaGreatBWalk7
namespace Go.Proofs.YtibidnaedddfdaaGreat
open Go.RowKit
set_option linter.unusedVariables false
set_option linter.unusedSimpArgs false
set_option maxRecDepth 10000
set_option maxHeartbeats 2000000
variable {N:Nat}{S:Nat→Prop}{L:List HP}{h:Ac}
theorem K4 (hs:St S L h) {g:Value}{b:AK}(n:Rd S h BG g b) {i:Value}{j:Al}(o:Rd S h CE i j) {d:Value}{a:C7}(k:Rd S h E0 d a) {r:Bool}(E:GL N b j a=some r):
 Bh Tryz.prog 9 #[g,i,d] S h (λv S' h'=>v= .bool r∧St S' (L) h'):=by
 refine Ag (l:=[g,i,d]) 57 Tryz.func9 O Tryz.ntmps9 O λB=>?_
 rw[GL] at E
 refine WF.seq (WF.rl (LF.boxp O n (λe=>by cases e) O hs λq1 S2 h3 A z k6=>?_))
 have k7:=o.mono z
 refine LF.boxp O k7 (λe=>by cases e) O A λq8 S9 ag w p C=>?_
 have D:=k.mono (z.trans p)
 refine LF.boxp O D (λe=>by cases e) O w λah ai aj c s m=>LF.q 1 (QF.as_ O O (AE (LF.nil (kp [5,4,3] O) (WF.seq (WF.seq (WF.rp (.inl O) ?_))))))
 have t:=k6.mono (p.trans s)
 refine QF.fa O t Aj CX O λak F=>QF.ldl Af c.1 O F Ec O λam G=>QF.len O G D8 O λan=>QF.gtr O O O (QF.mv O O (QF.cutv 5 16 (.bool ((decide (6<(↑b.Places.length:Int)))||(decide (6<(↑b.Links.length:Int))))) ?_ ?_))
 ·
  cases ao:(decide (6<(↑b.Places.length:Int)))
  ·exact QF.gy O O O (QF.fa O t AK.f_Links Ez O λap H=>QF.gy O O O (QF.ldl Af c.1 O H HT O λaq I=>QF.gy O O O (QF.len O I Fx O λar=>QF.gy O O O (QF.gtr O O O (QF.pick O O O (AJ O))))))
  ·exact AL O O
 refine QF.mv O O (QF.cutv 5 22 (.bool (((decide (6<(↑b.Places.length:Int)))||(decide (6<(↑b.Links.length:Int))))||(decide (4<(↑b.Owners.length:Int))))) ?_ ?_)
 ·
  cases au:((decide (6<(↑b.Places.length:Int)))||(decide (6<(↑b.Links.length:Int))))
  ·exact QF.gy O O O (QF.fa O t FD JQ O λav J=>QF.gy O O O (QF.ldl Af c.1 O J NA O λaw K=>QF.gy O O O (QF.len O K MZ O λax=>QF.gy O O O (QF.gtr O O O (QF.pick O O O (AJ O))))))
  ·exact AL O O
 refine QF.mv O O (QF.cutv 5 28 (.bool ((((decide (6<(↑b.Places.length:Int)))||(decide (6<(↑b.Links.length:Int))))||(decide (4<(↑b.Owners.length:Int))))||(decide (16<(↑j.Queue.length:Int))))) ?_ ?_)
 ·
  cases ay:(((decide (6<(↑b.Places.length:Int)))||(decide (6<(↑b.Links.length:Int))))||(decide (4<(↑b.Owners.length:Int))))
  ·
   refine QF.gy O O O ?_
   have M:=C.mono s
   exact QF.fa O M Al.f_Queue Gt O λaz Q=>QF.gy O O O (QF.ldl Af c.1 O Q Jf O λa0 U=>QF.gy O O O (QF.len O U EU O λa1=>QF.gy O O O (QF.gtr O O O (QF.pick O O O (AJ O)))))
  ·exact AL O O
 refine AA (kp [28,5] O) (WF.if_ O (λu=>?_) (λu=>?_))
 ·
  have E:=A7 u E
  refine WF.seq (WF.rp (.inl O) (QF.as_ O O (AA (kp [6] O) (WF.ret (λaa ww hf hw=>?_)))))
  cases E
  have x:=z.trans (p.trans s)
  exact DC hf hw O O x ⟨O,c⟩
 ·
  have E:=A8 u E
  refine WF.skip (WF.seq (WF.rp (.inl O) (QF.fa O m C7.f_Rain Vg O λa2 V=>QF.ldl Af c.1 O V KB O λa3 W=>QF.len O W GI O λa4=>QF.leq O O O (QF.mv O O (QF.cutv 5 38 (.bool ((decide ((↑a.Rain.length:Int)≤8))&&(decide ((↑a.Faults.length:Int)≤8)))) ?_ ?_)))))
  ·
   cases a5:(decide ((↑a.Rain.length:Int)≤8))
   ·exact AL O O
   ·exact QF.gy O O O (QF.fa O m Jq Rg O λa6 X=>QF.gy O O O (QF.ldl Af c.1 O X V0 O λa7 Y=>QF.gy O O O (QF.len O Y TM O λa8=>QF.gy O O O (QF.leq O O O (QF.pick O O O (AJ O))))))
  refine QF.mv O O (QF.cutv 5 44 (.bool (((decide ((↑a.Rain.length:Int)≤8))&&(decide ((↑a.Faults.length:Int)≤8)))&&(decide ((↑a.Cmds.length:Int)≤8)))) ?_ ?_)
  ·
   cases a9:((decide ((↑a.Rain.length:Int)≤8))&&(decide ((↑a.Faults.length:Int)≤8)))
   ·exact AL O O
   ·exact QF.gy O O O (QF.fa O m LC Rf O λba Z=>QF.gy O O O (QF.ldl Af c.1 O Z Vz O λbb ab=>QF.gy O O O (QF.len O ab TL O λbc=>QF.gy O O O (QF.leq O O O (QF.pick O O O (AJ O))))))
  refine QF.mv O O (QF.cutv 5 50 (.bool ((((decide ((↑a.Rain.length:Int)≤8))&&(decide ((↑a.Faults.length:Int)≤8)))&&(decide ((↑a.Cmds.length:Int)≤8)))&&(decide ((↑a.Takes.length:Int)≤8)))) ?_ ?_)
  ·
   cases be:(((decide ((↑a.Rain.length:Int)≤8))&&(decide ((↑a.Faults.length:Int)≤8)))&&(decide ((↑a.Cmds.length:Int)≤8)))
   ·exact AL O O
   ·exact QF.gy O O O (QF.fa O m Ke Re O λbf ac=>QF.gy O O O (QF.ldl Af c.1 O ac Vy O λbg ad=>QF.gy O O O (QF.len O ad TK O λbh=>QF.gy O O O (QF.leq O O O (QF.pick O O O (AJ O))))))
  refine QF.mv O O (QF.cutv 5 56 (.bool (((((decide ((↑a.Rain.length:Int)≤8))&&(decide ((↑a.Faults.length:Int)≤8)))&&(decide ((↑a.Cmds.length:Int)≤8)))&&(decide ((↑a.Takes.length:Int)≤8)))&&(decide ((↑a.Swaps.length:Int)≤8)))) ?_ ?_)
  ·
   cases bi:((((decide ((↑a.Rain.length:Int)≤8))&&(decide ((↑a.Faults.length:Int)≤8)))&&(decide ((↑a.Cmds.length:Int)≤8)))&&(decide ((↑a.Takes.length:Int)≤8)))
   ·exact AL O O
   ·exact QF.gy O O O (QF.fa O m Ns Vf O λbj ae=>QF.gy O O O (QF.ldl Af c.1 O ae Xx O λbk af=>QF.gy O O O (QF.len O af X6 O λbl=>QF.gy O O O (QF.leq O O O (QF.pick O O O (AJ O))))))
  refine QF.as_ O O (AA (kp [6] O) (WF.ret (λaa ww hf hw=>?_)))
  cases E
  have y:=z.trans (p.trans s)
  exact DC hf hw O O y ⟨O,c⟩
theorem BE (hs:St S L h) {c:Int}(i:AB c) {b:Int}(g:AB b) {a:Int}(d:AB a) {r:Bool}(E:BU N c b a=some r):
 Bh Tryz.prog 85 #[.int .i64 c,.int .i64 b,.int .i64 a] S h (λv S' h'=>v= .bool r∧St S' (L) h'):=by
 refine Ag (l:=[.int .i64 c,.int .i64 b,.int .i64 a]) 15 Tryz.func85 O Tryz.ntmps85 O λB=>?_
 rw[BU] at E
 refine WF.seq (WF.rp (.inl O) (QF.as_ O O (AA (kp [0,1,2] O) (WF.seq (WF.rp (.inl O) (QF.mv O O (QF.mv O O (QF.leq O O O (QF.mv O O (QF.cutv 4 14 (.bool ((decide (b≤c))&&(decide (c≤a)))) ?_ ?_))))))))))
 ·
  cases j:(decide (b≤c))
  ·exact AL O O
  ·exact QF.gy O O O (QF.mv O O (QF.gy O O O (QF.mv O O (QF.gy O O O (QF.leq O O O (QF.pick O O O (AJ O)))))))
 refine QF.as_ O O (AA (kp [6] O) (WF.ret (λaa ww hf hw=>?_)))
 cases E
 exact DC hf hw O O (Bg.refl S h) ⟨O,hs⟩
theorem BL (hs:St S L h) {a:Int}(b:AB a) {r:Bool}(E:BM N a=some r):
 Bh Tryz.prog 86 #[.int .i64 a] S h (λv S' h'=>v= .bool r∧St S' (L) h'):=by
 refine Ag (l:=[.int .i64 a]) 5 Tryz.func86 O Tryz.ntmps86 O λB=>?_
 rw[BM] at E
 refine WF.seq (WF.rp (.inl O) (QF.as_ O O (AA (kp [0] O) (WF.seq (WF.rc (.inl O) hs (QF.mv O O ?_))))))
 obtain⟨i,c,E⟩:=bd E
 refine Ab O O O Fh O (λh' o=>BE (St.all h') b (iq (n:=0) O) (iq (n:=1125899906842624) O) c) (QF.as_ O O (Aq (kp [2] O) λj d g=>WF.ret (λaa ww hf hw=>?_)))
 cases E
 exact DC hf hw O O g ⟨O,d⟩
theorem K5 (hs:St S L h) {p:Value}{b:AK}(Q:Rd S h BG p b) {r:Bool}(E:FQ N b=some r):
 Bh Tryz.prog 36 #[p] S h (λv S' h'=>v= .bool r∧St S' (L) h'):=by
 refine Ag (l:=[p]) 109 Tryz.func36 O Tryz.ntmps36 O λB=>?_
 rw[FQ] at E
 refine WF.seq (WF.rl (LF.boxp O Q (λe=>by cases e) O hs λq1 S2 h3 m e5 y=>LF.q 1 (QF.as_ O O (AE (LF.nil (kp [1] O) (WF.seq (WF.seq (WF.rc (.inl O) m (QF.fa O y AK.f_Name Ox O λq7 k8=>QF.lds Ak m.1 O k8 Nw O λr9=>QF.lens O Nv O (QF.gtr O O O ?_))))))))))
 refine QF.mv O O ?_
 obtain⟨aj,g,E⟩:=bd E
 refine QF.cutv 6 17 (.bool aj) ?_ ?_
 ·
  cases ak:(decide (500<(↑b.Name.size:Int)))
  ·
   have g:=A8 ak g
   refine QF.gy O O O (QF.fa O y FD JQ O λcb a3=>QF.gy O O O (QF.ldl Ak m.1 O a3 NA O λcc a4=>QF.gy O O O (QF.len O a4 MZ O λa5=>QF.gy O O O ?_)))
   obtain⟨cd,am,g⟩:=bd g
   refine Ab O O O Fh O (λh' o=>BE (St.all h') (Ii a5) (iq (n:=1) O) (iq (n:=16) O) am) (QF.gy O O O (QF.not O O (QF.pick O O O ?_)))
   cases g
   exact AJ O
  ·
   have g:=A7 ak g
   cases g
   exact AL O O
 refine QF.mv O O ?_
 obtain⟨an,i,E⟩:=bd E
 refine QF.cutv 5 23 (.bool an) ?_ ?_
 ·
  cases ao:aj
  ·
   have i:=A8 ao i
   refine QF.gy O O O (QF.fa O y If Ow O λce a6=>QF.gy O O O (QF.ldi Ak m.1 O a6 AM O λa7=>QF.gy O O O ?_))
   obtain⟨cf,ap,i⟩:=bd i
   refine Ab O O O Fh O (λh' o=>BE (St.all h') a7 (iq (n:=0) O) (iq (n:=64) O) ap) (QF.gy O O O (QF.not O O (QF.pick O O O ?_)))
   cases i
   exact AJ O
  ·
   have i:=A7 ao i
   cases i
   exact AL O O
 refine QF.mv O O ?_
 obtain⟨d,j,E⟩:=bd E
 refine QF.cutv 6 30 (.bool d) ?_ ?_
 ·
  cases aq:an
  ·
   have j:=A8 aq j
   refine QF.gy O O O (QF.fa O y Aj CX O λcg a8=>QF.gy O O O (QF.ldl Ak m.1 O a8 Ec O λch a9=>QF.gy O O O (QF.len O a9 D8 O λba=>QF.gy O O O ?_)))
   obtain⟨ci,ar,j⟩:=bd j
   refine Ab O O O Fh O (λh' o=>BE (St.all h') (Ii ba) (iq (n:=1) O) (iq (n:=64) O) ar) (QF.gy O O O (QF.not O O (QF.pick O O O ?_)))
   cases j
   exact AJ O
  ·
   have j:=A7 aq j
   cases j
   exact AL O O
 refine QF.mv O O (QF.cutv 5 36 (.bool (d||(decide (96<(↑b.Links.length:Int))))) ?_ ?_)
 ·
  cases cj:d
  ·exact QF.gy O O O (QF.fa O y AK.f_Links Ez O λck bb=>QF.gy O O O (QF.ldl Ak m.1 O bb HT O λcl bc=>QF.gy O O O (QF.len O bc Fx O λcm=>QF.gy O O O (QF.gtr O O O (QF.pick O O O (AJ O))))))
  ·exact AL O O
 refine QF.mv O O (QF.cutv 5 42 (.bool ((d||(decide (96<(↑b.Links.length:Int))))||(decide (40<(↑b.Towns.length:Int))))) ?_ ?_)
 ·
  cases cn:(d||(decide (96<(↑b.Links.length:Int))))
  ·exact QF.gy O O O (QF.fa O y GZ Lt O λco be=>QF.gy O O O (QF.ldl Ak m.1 O be PP O λcp bf=>QF.gy O O O (QF.len O bf NF O λcq=>QF.gy O O O (QF.gtr O O O (QF.pick O O O (AJ O))))))
  ·exact AL O O
 refine QF.mv O O (QF.cutv 5 48 (.bool (((d||(decide (96<(↑b.Links.length:Int))))||(decide (40<(↑b.Towns.length:Int))))||(decide (128<(↑b.Gauges.length:Int))))) ?_ ?_)
 ·
  cases cr:((d||(decide (96<(↑b.Links.length:Int))))||(decide (40<(↑b.Towns.length:Int))))
  ·exact QF.gy O O O (QF.fa O y H4 Ov O λcs bg=>QF.gy O O O (QF.ldl Ak m.1 O bg Sv O λct bh=>QF.gy O O O (QF.len O bh Pa O λcu=>QF.gy O O O (QF.gtr O O O (QF.pick O O O (AJ O))))))
  ·exact AL O O
 refine QF.mv O O (QF.cutv 5 54 (.bool ((((d||(decide (96<(↑b.Links.length:Int))))||(decide (40<(↑b.Towns.length:Int))))||(decide (128<(↑b.Gauges.length:Int))))||(decide (128<(↑b.Roads.length:Int))))) ?_ ?_)
 ·
  cases cv:(((d||(decide (96<(↑b.Links.length:Int))))||(decide (40<(↑b.Towns.length:Int))))||(decide (128<(↑b.Gauges.length:Int))))
  ·exact QF.gy O O O (QF.fa O y Ie Ou O λcw bi=>QF.gy O O O (QF.ldl Ak m.1 O bi Su O λcx bj=>QF.gy O O O (QF.len O bj PZ O λcy=>QF.gy O O O (QF.gtr O O O (QF.pick O O O (AJ O))))))
  ·exact AL O O
 refine QF.mv O O (QF.cutv 5 60 (.bool (((((d||(decide (96<(↑b.Links.length:Int))))||(decide (40<(↑b.Towns.length:Int))))||(decide (128<(↑b.Gauges.length:Int))))||(decide (128<(↑b.Roads.length:Int))))||(decide (40<(↑b.Shelters.length:Int))))) ?_ ?_)
 ·
  cases cz:((((d||(decide (96<(↑b.Links.length:Int))))||(decide (40<(↑b.Towns.length:Int))))||(decide (128<(↑b.Gauges.length:Int))))||(decide (128<(↑b.Roads.length:Int))))
  ·exact QF.gy O O O (QF.fa O y GM M6 O λc0 bk=>QF.gy O O O (QF.ldl Ak m.1 O bk Q4 O λc1 bl=>QF.gy O O O (QF.len O bl N3 O λc2=>QF.gy O O O (QF.gtr O O O (QF.pick O O O (AJ O))))))
  ·exact AL O O
 refine QF.mv O O (QF.cutv 5 66 (.bool ((((((d||(decide (96<(↑b.Links.length:Int))))||(decide (40<(↑b.Towns.length:Int))))||(decide (128<(↑b.Gauges.length:Int))))||(decide (128<(↑b.Roads.length:Int))))||(decide (40<(↑b.Shelters.length:Int))))||(decide ((↑b.Room.length:Int)≠3)))) ?_ ?_)
 ·
  cases c3:(((((d||(decide (96<(↑b.Links.length:Int))))||(decide (40<(↑b.Towns.length:Int))))||(decide (128<(↑b.Gauges.length:Int))))||(decide (128<(↑b.Roads.length:Int))))||(decide (40<(↑b.Shelters.length:Int))))
  ·exact QF.gy O O O (QF.fa O y AK.f_Room Rh O λc4 bm=>QF.gy O O O (QF.ldl Ak m.1 O bm KB O λc5 bn=>QF.gy O O O (QF.len O bn GI O λc6=>QF.gy O O O (QF.neq O O O (QF.pick O O O (AJ O))))))
  ·exact AL O O
 refine QF.mv O O ?_
 obtain⟨bo,k,E⟩:=bd E
 refine QF.cutv 5 72 (.bool bo) ?_ ?_
 ·
  cases au:((((((d||(decide (96<(↑b.Links.length:Int))))||(decide (40<(↑b.Towns.length:Int))))||(decide (128<(↑b.Gauges.length:Int))))||(decide (128<(↑b.Roads.length:Int))))||(decide (40<(↑b.Shelters.length:Int))))||(decide ((↑b.Room.length:Int)≠3)))
  ·
   have k:=A8 au k
   refine QF.gy O O O (QF.fa O y AK.f_Err Tw O λc7 bp=>QF.gy O O O (QF.ldi Ak m.1 O bp AM O λbq=>QF.gy O O O ?_))
   obtain⟨c8,av,k⟩:=bd k
   refine Ab O O O Fh O (λh' o=>BE (St.all h') bq (iq (n:=0) O) (iq (n:=1099511627776) O) av) (QF.gy O O O (QF.not O O (QF.pick O O O ?_)))
   cases k
   exact AJ O
  ·
   have k:=A7 au k
   cases k
   exact AL O O
 refine Aq (kp [72,1] O) λY z A=>WF.if_ O (λZ=>?_) (λZ=>?_)
 ·
  have E:=A7 Z E
  refine WF.seq (WF.rp (.inl O) (QF.as_ O O (AA (kp [2] O) (WF.ret (λaa ww hf hw=>?_)))))
  cases E
  exact DC hf hw O O (e5.trans A) ⟨O,z⟩
 ·
  have E:=A8 Z E
  refine WF.skip (WF.seq (WF.seq (WF.rp (.inl O) ?_)))
  have ab:=y.mono A
  refine QF.fa O ab AK.f_Name Ox O λc9 br=>QF.lds Af z.1 O br Nw O λda=>QF.lens O Nv O (QF.mv O O (AA (kp [76,75,1] O) (WF.blockJ (λa w=>IV B S2 Y (109,[]) a w [(1,q1)] (L) λ_ _=>Cm N b=some r) ?_ ?_)))
  ·
   refine WF.loopF (λn1=>λa w=>∃(C:Int),IV B S2 Y (109,[]) a w [(75,.int .i64 (↑b.Name.size:Int)),(1,q1),(76,.int .i64 C)] (L) λ_ _=>AB C∧Ck N b (Cm N b) n1 C=some r) N ?_ ?_ ?_
   ·
    intro aa ww hf hw
    exact⟨0,_,_,hf.sub (kp [75,1,76] O),hw,z,(Bg.refl S2 Y),(iq (n:=0) O),E⟩
   ·
    rintro aa ww ⟨_,_,_,_,_,_,_,_,E⟩
    rw[Ck] at E;cases E
   ·
    rintro n1 aa ww ⟨C,db,dc,hf,hw,u,U,dd,E⟩
    refine WF.run ?_ hf hw
    clear hf hw ww aa
    rw[Ck] at E
    refine WF.seq (WF.rp (.inl O) (QF.lss O O O (AA (kp [77,75,1,76] O) (WF.seq (WF.if_ O (λac=>?_) (λac=>?_))))))
    ·
     have E:=A7 ac E
     refine WF.skip (WF.seq (WF.block (WF.seq (WF.rp (.inl O) (QF.mv O O (QF.as_ O O (AA (kp [3,75,1,76] O) (WF.seq (WF.rp (.inl O) ?_)))))))))
     have bt:=ab.mono U
     refine QF.fa O bt AK.f_Name Ox O λde bu=>QF.lds Af u.1 O bu Nw O λdf=>QF.mv O O ?_
     obtain⟨c,V,E⟩:=bd E
     have bv:=Lz V
     refine QF.bixk O O Nv V O (QF.as_ O O (AA (kp [4,75,1,76] O) (WF.seq (WF.rp (.inl O) (QF.mv O O (QF.lss O O O (QF.mv O O (QF.cutv 3 88 (.bool ((decide (c<32))||(decide (126<c)))) ?_ ?_))))))))
     ·
      cases bw:(decide (c<32))
      ·exact QF.gy O O O (QF.mv O O (QF.gy O O O (QF.gtr O O O (QF.pick O O O (AJ O)))))
      ·exact AL O O
     refine QF.mv O O (QF.cutv 3 92 (.bool (((decide (c<32))||(decide (126<c)))||(decide (c=34)))) ?_ ?_)
     ·
      cases bx:((decide (c<32))||(decide (126<c)))
      ·exact QF.gy O O O (QF.mv O O (QF.gy O O O (QF.eql O O O (QF.pick O O O (AJ O)))))
      ·exact AL O O
     refine QF.mv O O (QF.cutv 3 96 (.bool ((((decide (c<32))||(decide (126<c)))||(decide (c=34)))||(decide (c=92)))) ?_ ?_)
     ·
      cases bz:(((decide (c<32))||(decide (126<c)))||(decide (c=34)))
      ·exact QF.gy O O O (QF.mv O O (QF.gy O O O (QF.eql O O O (QF.pick O O O (AJ O)))))
      ·exact AL O O
     refine AA (kp [96,75,1,76] O) (WF.if_ O (λD=>?_) (λD=>?_))
     ·
      have E:=A7 D E
      refine WF.seq (WF.rp (.inl O) (QF.as_ O O (AA (kp [2] O) (WF.ret (λaa ww hf hw=>?_)))))
      cases E
      have ad:=e5.trans (A.trans U)
      exact DC hf hw O O ad ⟨O,u⟩
     ·
      have E:=A8 D E
      refine WF.skip (Ap (WF.rp (.inl O) (QF.addw O O O (QF.mv O O (AA (kp [76,75,1] O) (WF.nil (λaa ww hf hw=>?_)))))))
      exact⟨(A3 (C+1)),_,_,hf.sub (kp [75,1,76] O),hw,u,U,(BA _),E⟩
    ·
     have E:=A8 ac E
     refine WF.exit O (λaa ww hf hw=>?_)
     exact⟨_,_,hf.sub (kp [1] O),hw,u,U,E⟩
  ·
   rintro aa ww ⟨F,G,hf,hw,H,I,E⟩
   refine WF.run ?_ hf hw
   clear hf hw ww aa
   rw[Cm] at E
   refine WF.seq (WF.seq (WF.rp (.inl O) ?_))
   have aw:=ab.mono I
   refine QF.fa O aw AK.f_Room Rh O λb0 ax=>QF.ldl Af H.1 O ax KB O λay W=>QF.len O W GI O λb1=>QF.mv O O (AA (kp [101,100,99] O) (WF.blockJ (λa w=>IV B F G (109,[]) a w [] (L) λ_ _=>Dw N=some r) ?_ ?_))
   ·
    refine WF.loopF (λn3=>λa w=>∃(s:Int),IV B F G (109,[]) a w [(100,.int .i64 (↑b.Room.length:Int)),(99,ay),(101,.int .i64 s)] (L) λ_ _=>AB s∧Cj N b (Dw N) n3 s=some r) N ?_ ?_ ?_
    ·
     intro aa ww hf hw
     exact⟨0,_,_,hf.sub (kp [100,99,101] O),hw,H,(Bg.refl F G),(iq (n:=0) O),E⟩
    ·
     rintro aa ww ⟨_,_,_,_,_,_,_,_,E⟩
     rw[Cj] at E;cases E
    ·
     rintro n3 aa ww ⟨s,b2,b3,hf,hw,t,x,b4,E⟩
     refine WF.run ?_ hf hw
     clear hf hw ww aa
     rw[Cj] at E
     refine WF.seq (WF.rp (.inl O) (QF.lss O O O (AA (kp [102,100,99,101] O) (WF.seq (WF.if_ O (λJ=>?_) (λJ=>?_))))))
     ·
      have E:=A7 J E
      refine WF.skip (WF.seq (WF.block (WF.seq (WF.rp (.inl O) ?_))))
      have az:=W.mono' x
      obtain⟨b5,ae,E⟩:=bd E
      refine QF.ixe O O az GI ae O λb6 a0=>QF.ldi Af t.1 O a0 AM O λa1=>QF.as_ O O (AA (kp [6,100,99,101] O) (WF.seq (WF.rc (.inl O) t (QF.mv O O ?_))))
      obtain⟨b7,af,E⟩:=bd E
      refine Ab O O O HV O (λh' o=>BL (St.all h') a1 af) (QF.not O O (Aq (kp [107,100,99,101] O) λb8 K X=>WF.if_ O (λM=>?_) (λM=>?_)))
      ·
       have E:=A7 M E
       refine WF.seq (WF.rp (.inl O) (QF.as_ O O (AA (kp [2] O) (WF.ret (λaa ww hf hw=>?_)))))
       cases E
       have ag:=e5.trans (A.trans (I.trans (x.trans X)))
       exact DC hf hw O O ag ⟨O,K⟩
      ·
       have E:=A8 M E
       refine WF.skip (Ap (WF.rp (.inl O) (QF.addw O O O (QF.mv O O (AA (kp [101,100,99] O) (WF.nil (λaa ww hf hw=>?_)))))))
       exact⟨(A3 (s+1)),_,_,hf.sub (kp [100,99,101] O),hw,K,(x.trans X),(BA _),E⟩
     ·
      have E:=A8 J E
      refine WF.exit O (λaa ww hf hw=>?_)
      exact⟨_,_,hf.sub J6,hw,t,x,E⟩
   ·
    rintro aa ww ⟨b9,ca,hf,hw,ah,a2,E⟩
    refine WF.run ?_ hf hw
    clear hf hw ww aa
    rw[Dw] at E
    refine WF.seq (WF.rp (.inl O) (QF.as_ O O (AA (kp [2] O) (WF.ret (λaa ww hf hw=>?_)))))
    cases E
    have ai:=e5.trans (A.trans (I.trans a2))
    exact DC hf hw O O ai ⟨O,ah⟩
theorem MQ (hs:St S L h) {b:ByteArray}(x:b.size≤maxLen) {r:Bool}(E:GW N b=some r):
 Bh Tryz.prog 140 #[.string b] S h (λv S' h'=>v= .bool r∧St S' (L) h'):=by
 refine Ag (l:=[.string b]) 54 Tryz.func140 O Tryz.ntmps140 O λB=>?_
 rw[GW] at E
 refine WF.seq (WF.rp (.inl O) (QF.as_ O O (AA (kp [0] O) (WF.seq (WF.seq (WF.rp (.inl O) (QF.mv O O (QF.lens O Nv O (QF.lss O O O (QF.mv O O (QF.cutv 4 12 (.bool ((decide ((↑b.size:Int)<1))||(decide (24<(↑b.size:Int))))) ?_ ?_)))))))))))
 ·
  cases Y:(decide ((↑b.size:Int)<1))
  ·exact QF.gy O O O (QF.mv O O (QF.gy O O O (QF.lens O Nv O (QF.gy O O O (QF.gtr O O O (QF.pick O O O (AJ O)))))))
  ·exact AL O O
 refine QF.mv O O (QF.cutv 3 16 (.bool (((decide ((↑b.size:Int)<1))||(decide (24<(↑b.size:Int))))||(b==(ByteArray.mk #[111,117,116])))) ?_ ?_)
 ·
  cases Z:((decide ((↑b.size:Int)<1))||(decide (24<(↑b.size:Int))))
  ·exact QF.gy O O O (QF.mv O O (QF.gy O O O (QF.eqstr O O O (QF.pick O O O (AJ O)))))
  ·exact AL O O
 refine QF.mv O O ?_
 obtain⟨z,d,E⟩:=bd E
 refine QF.cutv 4 21 (.bool z) ?_ ?_
 ·
  cases A:(((decide ((↑b.size:Int)<1))||(decide (24<(↑b.size:Int))))||(b==(ByteArray.mk #[111,117,116])))
  ·
   have d:=A8 A d
   refine QF.gy O O O (QF.mv O O (QF.gy O O O ?_))
   obtain⟨z5,s,d⟩:=bd d
   have r6:=Lz s
   refine QF.bixk O O Nv s O (QF.gy O O O (QF.lss O O O (QF.pick O O O ?_)))
   cases d
   exact AJ O
  ·
   have d:=A7 A d
   cases d
   exact AL O O
 refine QF.mv O O ?_
 obtain⟨F,g,E⟩:=bd E
 refine QF.cutv 4 26 (.bool F) ?_ ?_
 ·
  cases C:z
  ·
   have g:=A8 C g
   refine QF.gy O O O (QF.mv O O (QF.gy O O O ?_))
   obtain⟨z9,t,g⟩:=bd g
   have G:=Lz t
   refine QF.bixk O O Nv t O (QF.gy O O O (QF.gtr O O O (QF.pick O O O ?_)))
   cases g
   exact AJ O
  ·
   have g:=A7 C g
   cases g
   exact AL O O
 refine AA (kp [26,0] O) (WF.if_ O (λm=>?_) (λm=>?_))
 ·
  have E:=A7 m E
  refine WF.seq (WF.rp (.inl O) (QF.as_ O O (AA (kp [2] O) (WF.ret (λaa ww hf hw=>?_)))))
  cases E
  exact DC hf hw O O (Bg.refl S h) ⟨O,hs⟩
 ·
  have E:=A8 m E
  refine WF.skip (WF.seq (WF.seq (WF.rp (.inl O) (QF.as_ O O (AA (kp [3,0] O) (WF.blockJ (λa w=>IV B S h (54,[]) a w [] (L) λ_ _=>EX N=some r) ?_ ?_))))))
  ·
   refine WF.loopF (λD=>λa w=>∃(i:Int),IV B S h (54,[]) a w [(0,.string b),(3,.int .i64 i)] (L) λ_ _=>AB i∧Dd N b (EX N) D i=some r) N ?_ ?_ ?_
   ·
    intro aa ww hf hw
    exact⟨1,_,_,hf.sub (kp [0,3] O),hw,hs,(Bg.refl S h),(iq (n:=1) O),E⟩
   ·
    rintro aa ww ⟨_,_,_,_,_,_,_,_,E⟩
    rw[Dd] at E;cases E
   ·
    rintro D aa ww ⟨i,H,I,hf,hw,j,o,J,E⟩
    refine WF.run ?_ hf hw
    clear hf hw ww aa
    rw[Dd] at E
    refine WF.seq (WF.seq (WF.rp (.inl O) (QF.mv O O (QF.mv O O (QF.lens O Nv O (QF.lss O O O (AA (kp [30,0,3] O) (WF.if_ O (λp=>?_) (λp=>?_)))))))))
    ·
     have E:=A7 p E
     refine WF.skip (WF.seq (WF.block (WF.seq (WF.rp (.inl O) (QF.mv O O (QF.mv O O ?_))))))
     obtain⟨c,k,E⟩:=bd E
     have K:=Lz k
     refine QF.bixk O O Nv k O (QF.as_ O O (AA (kp [4,0,3] O) (WF.seq (WF.rp (.inl O) (QF.mv O O (QF.lss O O O (QF.mv O O (QF.cutv 3 41 (.bool ((decide (c<97))||(decide (122<c)))) ?_ ?_))))))))
     ·
      cases M:(decide (c<97))
      ·exact QF.gy O O O (QF.mv O O (QF.gy O O O (QF.gtr O O O (QF.pick O O O (AJ O)))))
      ·exact AL O O
     refine QF.mv O O (QF.cutv 7 49 (.bool (((decide (c<97))||(decide (122<c)))&&((decide (c<48))||(decide (57<c))))) ?_ ?_)
     ·
      cases Q:((decide (c<97))||(decide (122<c)))
      ·exact AL O O
      ·
       refine QF.gy O O O (QF.mv O O (QF.gy O O O (QF.lss O O O (QF.gy O O O (QF.mv O O (QF.cutv 3 48 (.bool ((decide (c<48))||(decide (57<c)))) ?_ ?_))))))
       ·
        cases U:(decide (c<48))
        ·exact QF.gy O O O (QF.mv O O (QF.gy O O O (QF.gtr O O O (QF.gy O O O (QF.pick O O O (AJ O))))))
        ·exact AL O O
       exact QF.pick O O O (AJ O)
     refine QF.mv O O (QF.cutv 3 53 (.bool ((((decide (c<97))||(decide (122<c)))&&((decide (c<48))||(decide (57<c))))&&(decide (c≠95)))) ?_ ?_)
     ·
      cases V:(((decide (c<97))||(decide (122<c)))&&((decide (c<48))||(decide (57<c))))
      ·exact AL O O
      ·exact QF.gy O O O (QF.mv O O (QF.gy O O O (QF.neq O O O (QF.pick O O O (AJ O)))))
     refine AA (kp [53,0,3] O) (WF.if_ O (λq=>?_) (λq=>?_))
     ·
      have E:=A7 q E
      refine WF.seq (WF.rp (.inl O) (QF.as_ O O (AA (kp [2] O) (WF.ret (λaa ww hf hw=>?_)))))
      cases E
      exact DC hf hw O O o ⟨O,j⟩
     ·
      have E:=A8 q E
      refine WF.skip (Ap (WF.rp (.inl O) (QF.mv O O (QF.addw O O O (QF.as_ O O (AA (kp [3,0] O) (WF.nil (λaa ww hf hw=>?_))))))))
      exact⟨(A3 (i+1)),_,_,hf.sub (kp [0,3] O),hw,j,o,(BA _),E⟩
    ·
     have E:=A8 p E
     refine WF.exit O (λaa ww hf hw=>?_)
     exact⟨_,_,hf.sub J6,hw,j,o,E⟩
  ·
   rintro aa ww ⟨W,X,hf,hw,u,y,E⟩
   refine WF.run ?_ hf hw
   clear hf hw ww aa
   rw[EX] at E
   refine WF.seq (WF.rp (.inl O) (QF.as_ O O (AA (kp [2] O) (WF.ret (λaa ww hf hw=>?_)))))
   cases E
   exact DC hf hw O O y ⟨O,u⟩
theorem Ms {c:Nat}{d:(List (AG×Bool))}(hs:St S (MP (λk:AG=>Value.agg (AG.v k).toArray) Value.bool c d::L) h) {g:ByteArray}(i:g.size≤maxLen) {b:ByteArray}(j:b.size≤maxLen) {r:Bool×(List (AG×Bool))}(E:Gq N d g b=some r):
 Bh Tryz.prog 88 #[.map (some c),.string g,.string b] S h (λv S' h'=>v= .bool r.1∧St S' (MP (λk:AG=>Value.agg (AG.v k).toArray) Value.bool c r.2::L) h'):=by
 refine Ag (l:=[.map (some c),.string g,.string b]) 23 Tryz.func88 O Tryz.ntmps88 O λB=>?_
 rw[Gq] at E
 refine WF.seq (WF.rp (.inl O) (QF.as_ O O (AA (kp [0,1,2] O) (WF.seq (WF.seq (WF.rp (.inl O) (QF.mv O O (QF.eqstr O O O (AA (kp [9,0,1,2] O) (WF.cut (λa w=>∃(m:ByteArray),IV B S h (23,[]) a w [(0,.map (some c)),(2,.string b),(1,.string m)] (MP (λk:AG=>Value.agg (AG.v k).toArray) Value.bool c d::L) λ_ _=>m.size≤maxLen∧En N d b m=some r) ?_ ?_))))))))))
 ·
  refine WF.if_ O (λK=>?_) (λK=>?_)
  ·
   have E:=A7 K E
   refine WF.rp (.inl O) (QF.as_ O O (AA (kp [1,0,2] O) (WF.nil (λaa ww hf hw=>?_))))
   exact⟨(ByteArray.mk #[116,111,119,110]),_,_,hf.sub (kp [0,2,1] O),hw,hs,(Bg.refl S h),(by decide),E⟩
  ·
   have E:=A8 K E
   refine WF.skip (WF.nil (λaa ww hf hw=>?_))
   exact⟨g,_,_,hf.sub (kp [0,2,1] O),hw,hs,(Bg.refl S h),i,E⟩
 ·
  rintro aa ww ⟨m,Z,h5,hf,hw,M,U,r2,E⟩
  refine WF.run ?_ hf hw
  clear hf hw ww aa
  rw[En] at E
  refine WF.seq (WF.rl (LF.q 3 (QF.mv O O (QF.mv O O (QF.bld (cs:=[.string m,.string b]) Wc O O O (AE (LF.al WM O M λb8 h9 t u=>Ai (vs:=[.string m,.string b]) O O O O QS O t .head O λV n y=>LF.nil (kp [7,0,2] O) (WF.seq (WF.seq (WF.rc (.inl O) n (QF.mv O O ?_)))))))))))
  obtain⟨A,C,E⟩:=bd E
  refine Ab O O O XH O (λh' o=>MQ (St.all h') j C) (QF.not O O (QF.mv O O (QF.cutv 4 20 (.bool ((!A)||((KL (λk:AG=>Value.agg (AG.v k).toArray) d (⟨m,b⟩:AG)).getD false))) ?_ ?_)))
  ·
   cases W:(!A)
   ·exact QF.gy O O O (QF.mv O O (QF.gy O O O (QF.ldo (vs:=[.string m,.string b]) Ak n O mh O O QS O O (QF.gy O O O (O8 (k0:=(⟨m,b⟩:AG)) (z:=false) Ak n (mt mh) O O Sq RU Xl O O (QF.pick O O O (AJ O)))))))
   ·exact AL O O
  refine Aq (kp [20,7,0] O) λX p D=>WF.if_ O (λs=>?_) (λs=>?_)
  ·
   have E:=A7 s E
   refine WF.seq (WF.rp (.inl O) (QF.as_ O O (AA (kp [6] O) (WF.ret (λaa ww hf hw=>?_)))))
   have F:=p.sel [1] 1 O
   cases E
   have G:=U.trans (u.trans (y.trans D))
   exact DC hf hw O O G ⟨O,F⟩
  ·
   have E:=A8 s E
   refine WF.skip (WF.seq (WF.rl (LF.q 2 (QF.mv O O (QF.ldo (vs:=[.string m,.string b]) Af p O mh O O QS O O (AE (Qr (k0:=(⟨m,b⟩:AG)) (x:=true) p (.tail .head) O O O Sq RU λY H Q=>LF.nil J6 (WF.seq (WF.rp (.inl O) (QF.as_ O O (AA (kp [6] O) (WF.ret (λaa ww hf hw=>?_)))))))))))))
   have I:=H.sel [1] 1 O
   cases E
   have J:=U.trans (u.trans (y.trans (D.trans Q)))
   exact DC hf hw O O J ⟨O,I⟩
theorem Ct {d:Nat}{c2_:(List (AG×Bool))}{a:Nat}{g:Nat}{c3_:Bool}(hs:St S (Bx d 154 [.map (some a)]::MP (λk:AG=>Value.agg (AG.v k).toArray) Value.bool a c2_::Bx g 4 [.bool c3_]::L) h) {b:ByteArray}(i:b.size≤maxLen) {c:ByteArray}(j:c.size≤maxLen) {r:(List (AG×Bool))×Bool}(E:Bk N c2_ c3_ b c=some r):
 Bh Tryz.prog 87 #[.string b,.string c,.pointer (some ⟨d,0,none⟩),.pointer (some ⟨g,0,none⟩)] S h (λv S' h'=>v= .tuple #[]∧St S' (Bx d 154 [.map (some a)]::MP (λk:AG=>Value.agg (AG.v k).toArray) Value.bool a r.1::Bx g 4 [.bool r.2]::L) h'):=by
 refine Ag (l:=[.string b,.string c,.pointer (some ⟨d,0,none⟩),.pointer (some ⟨g,0,none⟩)]) 13 Tryz.func87 O Tryz.ntmps87 O λB=>?_
 rw[Bk] at E
 refine WF.rl (LF.q 3 (AI Af hs O mh O S7 O (QF.mv O O (QF.mv O O (AE ?_)))))
 have s:=hs.pick (.tail .head)
 obtain⟨t,u,E⟩:=bd E
 refine LF.call O O O Yr O (Ms s i j u) λy z A x p=>?_
 obtain⟨rfl,m⟩:=p
 refine LF.q 3 (QF.mv O O (QF.cutv 2 12 (.bool (t.1&&c3_)) ?_ ?_))
 ·
  cases C:t.1
  ·exact AL O O
  ·exact QF.gy O O O (AI Af m O (mt (mt mh)) O LV O (QF.pick O O O (AJ O)))
 refine AE (Ai (vs:=[.bool (t.1&&c3_)]) O O O O LV O m (.tail (.tail .head)) O λD n w=>LF.nil J6 (WF.nil (λaa ww hf hw=>?_)))
 have o:=n.sel [1,0,0] 0 O
 cases E
 exact Hq hf O hw HY O (x.trans w) ⟨O,o⟩
theorem Kb (hs:St S L h) {s:Value}{c:AK}(bt:Rd S h BG s c) {r:Bool}(E:Fu N c=some r):
 Bh Tryz.prog 37 #[s] S h (λv S' h'=>v= .bool r∧St S' (L) h'):=by
 refine Ag (l:=[s]) 106 Tryz.func37 O Tryz.ntmps37 O λB=>?_
 rw[Fu] at E
 refine WF.seq (WF.rl (LF.boxp O bt (λe=>by cases e) O hs λq1 S2 h3 gr e5 k6=>LF.q 1 (QF.as_ O O (AE (LF.nil (kp [1] O) (WF.seq (WF.rl (Qs (K:=0) (E:=0) O gr (λk:AG=>Value.agg (AG.v k).toArray) Value.bool λj h8 gs ed=>LF.al WT O gs λg ki ee ef=>Ai (vs:=[.map (some j)]) O O O O S7 O ee .head O λkj eg eh=>LF.nil (kp [3,1] O) (WF.seq ?_)))))))))
 refine WF.rl (LF.al Xn O eg λd kk ei ej=>Ai (vs:=[.bool true]) O O O O LV O ei .head O λcy bz ek=>LF.nil (kp [4,3,1] O) (WF.seq (WF.rp (.inl O) (QF.mkf O O O (QF.as_ O O (AA (kp [5,4,1] O) (WF.seq (WF.seq (WF.rp (.inl O) ?_)))))))))
 have el:=ed.trans (ef.trans (eh.trans (ej.trans ek)))
 have em:=k6.mono el
 refine QF.fa O em FD JQ O λkl gu=>QF.ldl Af bz.1 O gu NA O λgv en=>QF.len O en MZ O λkm=>QF.mv O O (AA (kp [25,24,23,5,4,1] O) (WF.blockJ (λa w=>∃(bu:Bool) (bv:(List (AG×Bool))),IV B S2 cy (106,[]) a w [(5,.func (.func 87) #[] #[.pointer (some ⟨g,0,none⟩),.pointer (some ⟨d,0,none⟩)]),(4,.pointer (some ⟨d,0,none⟩)),(1,q1)] (Bx d 4 [.bool bu]::Bx g 154 [.map (some j)]::MP (λk:AG=>Value.agg (AG.v k).toArray) Value.bool j bv::L) λ_ _=>C6 N c bu bv=some r) ?_ ?_))
 ·
  refine WF.loopF (λn1=>λa w=>∃(aj:Int) (ak:Bool) (am:(List (AG×Bool))),IV B S2 cy (106,[]) a w [(24,.int .i64 (↑c.Owners.length:Int)),(23,gv),(5,.func (.func 87) #[] #[.pointer (some ⟨g,0,none⟩),.pointer (some ⟨d,0,none⟩)]),(4,.pointer (some ⟨d,0,none⟩)),(1,q1),(25,.int .i64 aj)] (Bx d 4 [.bool ak]::Bx g 154 [.map (some j)]::MP (λk:AG=>Value.agg (AG.v k).toArray) Value.bool j am::L) λ_ _=>AB aj∧B7 N c (C6 N c) n1 aj ak am=some r) N ?_ ?_ ?_
  ·
   intro aa ww hf hw
   exact⟨0,true,([]:(List (AG×Bool))),_,_,hf.sub (kp [24,23,5,4,1,25] O),hw,bz,(Bg.refl S2 cy),(iq (n:=0) O),E⟩
  ·
   rintro aa ww ⟨_,_,_,_,_,_,_,_,_,_,E⟩
   rw[B7] at E;cases E
  ·
   rintro n1 aa ww ⟨aj,ak,am,kn,ko,hf,hw,an,cz,kq,E⟩
   refine WF.run ?_ hf hw
   clear hf hw ww aa
   rw[B7] at E
   refine WF.seq (WF.rp (.inl O) (QF.lss O O O (AA (kp [26,24,23,5,4,1,25] O) (WF.seq (WF.if_ O (λc0=>?_) (λc0=>?_))))))
   ·
    have E:=A7 c0 E
    refine WF.skip (WF.seq (WF.block (WF.seq (WF.rp (.inl O) ?_))))
    have gw:=en.mono' cz
    obtain⟨kr,eo,E⟩:=bd E
    refine QF.ixe O O gw MZ eo O λks gx=>QF.lds Af an.1 O gx Nw O λgz=>QF.as_ O O (AA (kp [7,24,23,5,4,1,25] O) (WF.rl (LF.q 2 (QF.mv O O (QF.mv O O (AE ?_))))))
    have ep:=an.sel [1,1,0] 0 O
    obtain⟨eq,er,E⟩:=bd E
    refine LF.call O O O Nh O (Ct (c2_:=am) (c3_:=ak) ep (by decide) gz er) λkt ku kv g0 p=>?_
    obtain⟨rfl,es⟩:=p
    refine LF.nil (kp [24,23,5,4,1,25] O) (Ap (WF.rp (.inl O) (QF.addw O O O (QF.mv O O (AA (kp [25,24,23,5,4,1] O) (WF.nil (λaa ww hf hw=>?_)))))))
    have et:=es.sel [2,0,0] 0 O
    exact⟨(A3 (aj+1)),eq.2,eq.1,_,_,hf.sub (kp [24,23,5,4,1,25] O),hw,et,(cz.trans g0),(BA _),E⟩
   ·
    have E:=A8 c0 E
    refine WF.exit O (λaa ww hf hw=>?_)
    exact⟨ak,am,_,_,hf.sub (kp [5,4,1] O),hw,an,cz,E⟩
 ·
  rintro aa ww ⟨bu,bv,c1,c2,hf,hw,b0,eu,E⟩
  refine WF.run ?_ hf hw
  clear hf hw ww aa
  rw[C6] at E
  refine WF.seq (WF.seq (WF.rp (.inl O) ?_))
  have ev:=em.mono eu
  refine QF.fa O ev Aj CX O λkw g1=>QF.ldl Af b0.1 O g1 Ec O λg2 ew=>QF.len O ew D8 O λkx=>QF.mv O O (AA (kp [36,35,34,5,4,1] O) (WF.blockJ (λa w=>∃(bw:Bool) (bx:(List (AG×Bool))),IV B c1 c2 (106,[]) a w [(5,.func (.func 87) #[] #[.pointer (some ⟨g,0,none⟩),.pointer (some ⟨d,0,none⟩)]),(4,.pointer (some ⟨d,0,none⟩)),(1,q1)] (Bx d 4 [.bool bw]::Bx g 154 [.map (some j)]::MP (λk:AG=>Value.agg (AG.v k).toArray) Value.bool j bx::L) λ_ _=>C5 N c bw bx=some r) ?_ ?_))
  ·
   refine WF.loopF (λn3=>λa w=>∃(ao:Int) (ap:Bool) (aq:(List (AG×Bool))),IV B c1 c2 (106,[]) a w [(35,.int .i64 (↑c.Places.length:Int)),(34,g2),(5,.func (.func 87) #[] #[.pointer (some ⟨g,0,none⟩),.pointer (some ⟨d,0,none⟩)]),(4,.pointer (some ⟨d,0,none⟩)),(1,q1),(36,.int .i64 ao)] (Bx d 4 [.bool ap]::Bx g 154 [.map (some j)]::MP (λk:AG=>Value.agg (AG.v k).toArray) Value.bool j aq::L) λ_ _=>AB ao∧B6 N c (C5 N c) n3 ao ap aq=some r) N ?_ ?_ ?_
   ·
    intro aa ww hf hw
    exact⟨0,bu,bv,_,_,hf.sub (kp [35,34,5,4,1,36] O),hw,b0,(Bg.refl c1 c2),(iq (n:=0) O),E⟩
   ·
    rintro aa ww ⟨_,_,_,_,_,_,_,_,_,_,E⟩
    rw[B6] at E;cases E
   ·
    rintro n3 aa ww ⟨ao,ap,aq,ky,kz,hf,hw,ar,c3,k0,E⟩
    refine WF.run ?_ hf hw
    clear hf hw ww aa
    rw[B6] at E
    refine WF.seq (WF.rp (.inl O) (QF.lss O O O (AA (kp [37,35,34,5,4,1,36] O) (WF.seq (WF.if_ O (λc4=>?_) (λc4=>?_))))))
    ·
     have E:=A7 c4 E
     refine WF.skip (WF.seq (WF.block (WF.seq (WF.rl (LF.q 2 ?_)))))
     have g3:=ew.mono' c3
     obtain⟨i,ey,E⟩:=bd E
     refine QF.ixe O O g3 D8 ey O λk1 g4=>QF.ld Af ar.1 O g4 HS (λe=>by cases e) O λk2 g5=>AE (LF.al MW O ar λk3 k4 ez e0=>?_)
     have g6:=g5.mono e0
     obtain⟨b1,b2,b3,rfl,g7,k5,k7,g8,e1,e2,g9,ha,hb,hc,hd,e3⟩:=BF.ex g6
     refine LF.st (vs:=[.string i.Name,.int .i64 i.Kind,.int .i64 i.Office,.int .i64 i.Cap,b1,b2,.int .i64 i.Num,.int .i64 i.Den,.int .i64 i.Down,.int .i64 i.Delay,.int .i64 i.Floor,b3]) (cs':=[.string i.Name,.int .i64 i.Kind,.int .i64 i.Office,.int .i64 i.Cap,b1,b2,.int .i64 i.Num,.int .i64 i.Den,.int .i64 i.Down,.int .i64 i.Delay,.int .i64 i.Floor,b3]) O O O (AD O (AD O (AD O (AD O (AD e1.one (AD e2.one (AD O (AD O (AD O (AD O (AD O (AD e3.one EI)))))))))))) HS O ez .head O O λhe au e4=>LF.nil (kp [9,35,34,5,4,1,36] O) (WF.rl (LF.q 3 (QF.mv O O (QF.fao O Ve O (AI Af au O mh O Nw O (AE ?_))))))
     have c5:=au.sel [2,2,1,0] 0 O
     obtain⟨b4,c6,E⟩:=bd E
     refine LF.call O O O Nh O (Ct (c2_:=aq) (c3_:=ap) c5 (by decide) g7 c6) λhg hh hi e6 p=>?_
     obtain⟨rfl,c7⟩:=p
     refine LF.nil (kp [35,34,5,4,1,36] O) (Ap (WF.rp (.inl O) (QF.addw O O O (QF.mv O O (AA (kp [36,35,34,5,4,1] O) (WF.nil (λaa ww hf hw=>?_)))))))
     have c8:=c7.sel [2,0,0] 1 O
     have c9:=c3.trans (e0.trans (e4.trans e6))
     exact⟨(A3 (ao+1)),b4.2,b4.1,_,_,hf.sub (kp [35,34,5,4,1,36] O),hw,c8,c9,(BA _),E⟩
    ·
     have E:=A8 c4 E
     refine WF.exit O (λaa ww hf hw=>?_)
     exact⟨ap,aq,_,_,hf.sub (kp [5,4,1] O),hw,ar,c3,E⟩
  ·
   rintro aa ww ⟨bw,bx,av,aw,hf,hw,ax,b5,E⟩
   refine WF.run ?_ hf hw
   clear hf hw ww aa
   rw[C5] at E
   refine WF.seq (WF.seq (WF.rp (.inl O) ?_))
   have b6:=ev.mono b5
   refine QF.fa O b6 AK.f_Links Ez O λhj e7=>QF.ldl Af ax.1 O e7 HT O λe8 b8=>QF.len O b8 Fx O λhk=>QF.mv O O (AA (kp [48,47,46,5,4,1] O) (WF.blockJ (λa w=>∃(Z:Bool) (ab:(List (AG×Bool))),IV B av aw (106,[]) a w [(5,.func (.func 87) #[] #[.pointer (some ⟨g,0,none⟩),.pointer (some ⟨d,0,none⟩)]),(4,.pointer (some ⟨d,0,none⟩)),(1,q1)] (Bx d 4 [.bool Z]::Bx g 154 [.map (some j)]::MP (λk:AG=>Value.agg (AG.v k).toArray) Value.bool j ab::L) λ_ _=>C4 N c Z ab=some r) ?_ ?_))
   ·
    refine WF.loopF (λn5=>λa w=>∃(t:Int) (u:Bool) (x:(List (AG×Bool))),IV B av aw (106,[]) a w [(47,.int .i64 (↑c.Links.length:Int)),(46,e8),(5,.func (.func 87) #[] #[.pointer (some ⟨g,0,none⟩),.pointer (some ⟨d,0,none⟩)]),(4,.pointer (some ⟨d,0,none⟩)),(1,q1),(48,.int .i64 t)] (Bx d 4 [.bool u]::Bx g 154 [.map (some j)]::MP (λk:AG=>Value.agg (AG.v k).toArray) Value.bool j x::L) λ_ _=>AB t∧B5 N c (C4 N c) n5 t u x=some r) N ?_ ?_ ?_
    ·
     intro aa ww hf hw
     exact⟨0,bw,bx,_,_,hf.sub (kp [47,46,5,4,1,48] O),hw,ax,(Bg.refl av aw),(iq (n:=0) O),E⟩
    ·
     rintro aa ww ⟨_,_,_,_,_,_,_,_,_,_,E⟩
     rw[B5] at E;cases E
    ·
     rintro n5 aa ww ⟨t,u,x,hl,hm,hf,hw,U,ay,hn,E⟩
     refine WF.run ?_ hf hw
     clear hf hw ww aa
     rw[B5] at E
     refine WF.seq (WF.rp (.inl O) (QF.lss O O O (AA (kp [49,47,46,5,4,1,48] O) (WF.seq (WF.if_ O (λaz=>?_) (λaz=>?_))))))
     ·
      have E:=A7 az E
      refine WF.skip (WF.seq (WF.block (WF.seq (WF.rl (LF.q 2 ?_)))))
      have e9:=b8.mono' ay
      obtain⟨b,da,E⟩:=bd E
      refine QF.ixe O O e9 Fx da O λho fb=>QF.ld Af U.1 O fb Dk (λe=>by cases e) O λhp fc=>AE (LF.al LE O U λhq hr db b9=>?_)
      have fd:=fc.mono b9
      obtain⟨ca,cb,cc,rfl,fe,ht,hu,hv,ff,fg,fh,hx,hy,hz,h0,h1,h2,h4,h5,h6,h7,h9⟩:=A9.ex fd
      refine LF.st (vs:=[.string b.Name,.int .i64 b.Kind,.int .i64 b.From,.int .i64 b.To,ca,cb,cc,.int .i64 b.Positions,.int .i64 b.Speed,.int .i64 b.Leak,.int .i64 b.Crest,.int .i64 b.Num,.int .i64 b.Den,.int .i64 b.Prime,.int .i64 b.Break,.int .i64 b.BackNum,.int .i64 b.BackDen,.int .i64 b.Delay]) (cs':=[.string b.Name,.int .i64 b.Kind,.int .i64 b.From,.int .i64 b.To,ca,cb,cc,.int .i64 b.Positions,.int .i64 b.Speed,.int .i64 b.Leak,.int .i64 b.Crest,.int .i64 b.Num,.int .i64 b.Den,.int .i64 b.Prime,.int .i64 b.Break,.int .i64 b.BackNum,.int .i64 b.BackDen,.int .i64 b.Delay]) O O O (AD O (AD O (AD O (AD O (AD ff.one (AD fg.one (AD fh.one (AD O (AD O (AD O (AD O (AD O (AD O (AD O (AD O (AD O (AD O (AD O EI)))))))))))))))))) Dk O db .head O O λia a0 fi=>LF.nil (kp [11,47,46,5,4,1,48] O) (WF.rl (LF.q 3 (QF.mv O O (QF.fao O UL O (AI Af a0 O mh O Nw O (AE ?_))))))
      have dc:=a0.sel [2,2,1,0] 0 O
      obtain⟨cd,dd,E⟩:=bd E
      refine LF.call O O O Nh O (Ct (c2_:=x) (c3_:=u) dc (by decide) fe dd) λib ic id fj p=>?_
      obtain⟨rfl,de⟩:=p
      refine LF.nil (kp [47,46,5,4,1,48] O) (Ap (WF.rp (.inl O) (QF.addw O O O (QF.mv O O (AA (kp [48,47,46,5,4,1] O) (WF.nil (λaa ww hf hw=>?_)))))))
      have df:=de.sel [2,0,0] 1 O
      have dg:=ay.trans (b9.trans (fi.trans fj))
      exact⟨(A3 (t+1)),cd.2,cd.1,_,_,hf.sub (kp [47,46,5,4,1,48] O),hw,df,dg,(BA _),E⟩
     ·
      have E:=A8 az E
      refine WF.exit O (λaa ww hf hw=>?_)
      exact⟨u,x,_,_,hf.sub (kp [5,4,1] O),hw,U,ay,E⟩
   ·
    rintro aa ww ⟨Z,ab,a1,a2,hf,hw,a3,ce,E⟩
    refine WF.run ?_ hf hw
    clear hf hw ww aa
    rw[C4] at E
    refine WF.seq (WF.seq (WF.rp (.inl O) ?_))
    have cf:=b6.mono ce
    refine QF.fa O cf GZ Lt O λie fk=>QF.ldl Af a3.1 O fk PP O λfl cg=>QF.len O cg NF O λig=>QF.mv O O (AA (kp [60,59,58,5,4,1] O) (WF.blockJ (λa w=>∃(ac:Bool) (ad:(List (AG×Bool))),IV B a1 a2 (106,[]) a w [(5,.func (.func 87) #[] #[.pointer (some ⟨g,0,none⟩),.pointer (some ⟨d,0,none⟩)]),(4,.pointer (some ⟨d,0,none⟩)),(1,q1)] (Bx d 4 [.bool ac]::Bx g 154 [.map (some j)]::MP (λk:AG=>Value.agg (AG.v k).toArray) Value.bool j ad::L) λ_ _=>C3 N c ac ad=some r) ?_ ?_))
    ·
     refine WF.loopF (λn7=>λa w=>∃(y:Int) (z:Bool) (A:(List (AG×Bool))),IV B a1 a2 (106,[]) a w [(59,.int .i64 (↑c.Towns.length:Int)),(58,fl),(5,.func (.func 87) #[] #[.pointer (some ⟨g,0,none⟩),.pointer (some ⟨d,0,none⟩)]),(4,.pointer (some ⟨d,0,none⟩)),(1,q1),(60,.int .i64 y)] (Bx d 4 [.bool z]::Bx g 154 [.map (some j)]::MP (λk:AG=>Value.agg (AG.v k).toArray) Value.bool j A::L) λ_ _=>AB y∧B4 N c (C3 N c) n7 y z A=some r) N ?_ ?_ ?_
     ·
      intro aa ww hf hw
      exact⟨0,Z,ab,_,_,hf.sub (kp [59,58,5,4,1,60] O),hw,a3,(Bg.refl a1 a2),(iq (n:=0) O),E⟩
     ·
      rintro aa ww ⟨_,_,_,_,_,_,_,_,_,_,E⟩
      rw[B4] at E;cases E
     ·
      rintro n7 aa ww ⟨y,z,A,ih,ii,hf,hw,V,a4,ij,E⟩
      refine WF.run ?_ hf hw
      clear hf hw ww aa
      rw[B4] at E
      refine WF.seq (WF.rp (.inl O) (QF.lss O O O (AA (kp [61,59,58,5,4,1,60] O) (WF.seq (WF.if_ O (λa5=>?_) (λa5=>?_))))))
      ·
       have E:=A7 a5 E
       refine WF.skip (WF.seq (WF.block (WF.seq (WF.rl (LF.q 2 ?_)))))
       have fm:=cg.mono' a4
       obtain⟨m,dh,E⟩:=bd E
       refine QF.ixe O O fm NF dh O λik fn=>QF.ld Af V.1 O fn OY (λe=>by cases e) O λil fo=>AE (LF.al Sf O V λim io di ch=>?_)
       have fp:=fo.mono ch
       obtain⟨rfl,⟨fq,ip,ir,it,iu,iv,iw⟩⟩:=E7.ex fp
       refine Ai (vs:=[.string m.Name,.int .i64 m.Place,.int .i64 m.Flood,.int .i64 m.Lead,.int .i64 m.People,.int .i64 m.Watch,.int .i64 m.Quorum]) O O O O OY O di .head O λiy a6 fr=>LF.nil (kp [13,59,58,5,4,1,60] O) (WF.rl (LF.q 3 (QF.mv O O (QF.fao O UK O (AI Af a6 O mh O Nw O (AE ?_))))))
       have dj:=a6.sel [2,2,1,0] 0 O
       obtain⟨ci,dk,E⟩:=bd E
       refine LF.call O O O Nh O (Ct (c2_:=A) (c3_:=z) dj (by decide) fq dk) λiz i0 i1 fs p=>?_
       obtain⟨rfl,dl⟩:=p
       refine LF.nil (kp [59,58,5,4,1,60] O) (Ap (WF.rp (.inl O) (QF.addw O O O (QF.mv O O (AA (kp [60,59,58,5,4,1] O) (WF.nil (λaa ww hf hw=>?_)))))))
       have dm:=dl.sel [2,0,0] 1 O
       have dn:=a4.trans (ch.trans (fr.trans fs))
       exact⟨(A3 (y+1)),ci.2,ci.1,_,_,hf.sub (kp [59,58,5,4,1,60] O),hw,dm,dn,(BA _),E⟩
      ·
       have E:=A8 a5 E
       refine WF.exit O (λaa ww hf hw=>?_)
       exact⟨z,A,_,_,hf.sub (kp [5,4,1] O),hw,V,a4,E⟩
    ·
     rintro aa ww ⟨ac,ad,a7,a8,hf,hw,a9,cj,E⟩
     refine WF.run ?_ hf hw
     clear hf hw ww aa
     rw[C3] at E
     refine WF.seq (WF.seq (WF.rp (.inl O) ?_))
     have ck:=cf.mono cj
     refine QF.fa O ck GM M6 O λi2 ft=>QF.ldl Af a9.1 O ft Q4 O λfu cl=>QF.len O cl N3 O λi3=>QF.mv O O (AA (kp [72,71,70,5,4,1] O) (WF.blockJ (λa w=>∃(ae:Bool) (af:(List (AG×Bool))),IV B a7 a8 (106,[]) a w [(5,.func (.func 87) #[] #[.pointer (some ⟨g,0,none⟩),.pointer (some ⟨d,0,none⟩)]),(4,.pointer (some ⟨d,0,none⟩)),(1,q1)] (Bx d 4 [.bool ae]::Bx g 154 [.map (some j)]::MP (λk:AG=>Value.agg (AG.v k).toArray) Value.bool j af::L) λ_ _=>C2 N c ae af=some r) ?_ ?_))
     ·
      refine WF.loopF (λn9=>λa w=>∃(C:Int) (D:Bool) (F:(List (AG×Bool))),IV B a7 a8 (106,[]) a w [(71,.int .i64 (↑c.Shelters.length:Int)),(70,fu),(5,.func (.func 87) #[] #[.pointer (some ⟨g,0,none⟩),.pointer (some ⟨d,0,none⟩)]),(4,.pointer (some ⟨d,0,none⟩)),(1,q1),(72,.int .i64 C)] (Bx d 4 [.bool D]::Bx g 154 [.map (some j)]::MP (λk:AG=>Value.agg (AG.v k).toArray) Value.bool j F::L) λ_ _=>AB C∧B3 N c (C2 N c) n9 C D F=some r) N ?_ ?_ ?_
      ·
       intro aa ww hf hw
       exact⟨0,ac,ad,_,_,hf.sub (kp [71,70,5,4,1,72] O),hw,a9,(Bg.refl a7 a8),(iq (n:=0) O),E⟩
      ·
       rintro aa ww ⟨_,_,_,_,_,_,_,_,_,_,E⟩
       rw[B3] at E;cases E
      ·
       rintro n9 aa ww ⟨C,D,F,i4,i5,hf,hw,W,ba,i6,E⟩
       refine WF.run ?_ hf hw
       clear hf hw ww aa
       rw[B3] at E
       refine WF.seq (WF.rp (.inl O) (QF.lss O O O (AA (kp [73,71,70,5,4,1,72] O) (WF.seq (WF.if_ O (λbb=>?_) (λbb=>?_))))))
       ·
        have E:=A7 bb E
        refine WF.skip (WF.seq (WF.block (WF.seq (WF.rl (LF.q 2 ?_)))))
        have fv:=cl.mono' ba
        obtain⟨cm,dp,E⟩:=bd E
        refine QF.ixe O O fv N3 dp O λi7 fw=>QF.ld Af W.1 O fw OW (λe=>by cases e) O λi8 fx=>AE (LF.al Sd O W λi9 ja dq cn=>?_)
        have fy:=fx.mono cn
        obtain⟨rfl,⟨fz,jb⟩⟩:=Cd.ex fy
        refine Ai (vs:=[.string cm.Name,.int .i64 cm.Room]) O O O O OW O dq .head O λjc bc f0=>LF.nil (kp [15,71,70,5,4,1,72] O) (WF.rl (LF.q 3 (QF.mv O O (QF.fao O T9 O (AI Af bc O mh O Nw O (AE ?_))))))
        have dr:=bc.sel [2,2,1,0] 0 O
        obtain⟨co,ds,E⟩:=bd E
        refine LF.call O O O Nh O (Ct (c2_:=F) (c3_:=D) dr (by decide) fz ds) λjd je jf f1 p=>?_
        obtain⟨rfl,dt⟩:=p
        refine LF.nil (kp [71,70,5,4,1,72] O) (Ap (WF.rp (.inl O) (QF.addw O O O (QF.mv O O (AA (kp [72,71,70,5,4,1] O) (WF.nil (λaa ww hf hw=>?_)))))))
        have du:=dt.sel [2,0,0] 1 O
        have dv:=ba.trans (cn.trans (f0.trans f1))
        exact⟨(A3 (C+1)),co.2,co.1,_,_,hf.sub (kp [71,70,5,4,1,72] O),hw,du,dv,(BA _),E⟩
       ·
        have E:=A8 bb E
        refine WF.exit O (λaa ww hf hw=>?_)
        exact⟨D,F,_,_,hf.sub (kp [5,4,1] O),hw,W,ba,E⟩
     ·
      rintro aa ww ⟨ae,af,be,bf,hf,hw,bg,cp,E⟩
      refine WF.run ?_ hf hw
      clear hf hw ww aa
      rw[C2] at E
      refine WF.seq (WF.seq (WF.rp (.inl O) ?_))
      have cq:=ck.mono cp
      refine QF.fa O cq H4 Ov O λjg f2=>QF.ldl Af bg.1 O f2 Sv O λf3 cr=>QF.len O cr Pa O λjh=>QF.mv O O (AA (kp [84,83,82,5,4,1] O) (WF.blockJ (λa w=>∃(ag:Bool) (ah:(List (AG×Bool))),IV B be bf (106,[]) a w [(5,.func (.func 87) #[] #[.pointer (some ⟨g,0,none⟩),.pointer (some ⟨d,0,none⟩)]),(4,.pointer (some ⟨d,0,none⟩)),(1,q1)] (Bx d 4 [.bool ag]::Bx g 154 [.map (some j)]::MP (λk:AG=>Value.agg (AG.v k).toArray) Value.bool j ah::L) λ_ _=>Cs N c ag ah=some r) ?_ ?_))
      ·
       refine WF.loopF (λf4=>λa w=>∃(G:Int) (H:Bool) (I:(List (AG×Bool))),IV B be bf (106,[]) a w [(83,.int .i64 (↑c.Gauges.length:Int)),(82,f3),(5,.func (.func 87) #[] #[.pointer (some ⟨g,0,none⟩),.pointer (some ⟨d,0,none⟩)]),(4,.pointer (some ⟨d,0,none⟩)),(1,q1),(84,.int .i64 G)] (Bx d 4 [.bool H]::Bx g 154 [.map (some j)]::MP (λk:AG=>Value.agg (AG.v k).toArray) Value.bool j I::L) λ_ _=>AB G∧Bt N c (Cs N c) f4 G H I=some r) N ?_ ?_ ?_
       ·
        intro aa ww hf hw
        exact⟨0,ae,af,_,_,hf.sub (kp [83,82,5,4,1,84] O),hw,bg,(Bg.refl be bf),(iq (n:=0) O),E⟩
       ·
        rintro aa ww ⟨_,_,_,_,_,_,_,_,_,_,E⟩
        rw[Bt] at E;cases E
       ·
        rintro f4 aa ww ⟨G,H,I,ji,jj,hf,hw,X,bh,jk,E⟩
        refine WF.run ?_ hf hw
        clear hf hw ww aa
        rw[Bt] at E
        refine WF.seq (WF.rp (.inl O) (QF.lss O O O (AA (kp [85,83,82,5,4,1,84] O) (WF.seq (WF.if_ O (λbi=>?_) (λbi=>?_))))))
        ·
         have E:=A7 bi E
         refine WF.skip (WF.seq (WF.block (WF.seq (WF.rl (LF.q 2 ?_)))))
         have f5:=cr.mono' bh
         obtain⟨J,dw,E⟩:=bd E
         refine QF.ixe O O f5 Pa dw O λjl f6=>QF.ld Af X.1 O f6 OX (λe=>by cases e) O λjm f7=>AE (LF.al Se O X λjn jo dx cs=>?_)
         have f8:=f7.mono cs
         obtain⟨rfl,⟨f9,jp,jq,jr,js⟩⟩:=De.ex f8
         refine Ai (vs:=[.string J.Name,.int .i64 J.Kind,.int .i64 J.Target,.int .i64 J.Err,.int .i64 J.Drift]) O O O O OX O dx .head O λjt bj ga=>LF.nil (kp [17,83,82,5,4,1,84] O) (WF.rl (LF.q 3 (QF.mv O O (QF.fao O UD O (AI Af bj O mh O Nw O (AE ?_))))))
         have dy:=bj.sel [2,2,1,0] 0 O
         obtain⟨ct,dz,E⟩:=bd E
         refine LF.call O O O Nh O (Ct (c2_:=I) (c3_:=H) dy (by decide) f9 dz) λju jv jw gb p=>?_
         obtain⟨rfl,d0⟩:=p
         refine LF.nil (kp [83,82,5,4,1,84] O) (Ap (WF.rp (.inl O) (QF.addw O O O (QF.mv O O (AA (kp [84,83,82,5,4,1] O) (WF.nil (λaa ww hf hw=>?_)))))))
         have d1:=d0.sel [2,0,0] 1 O
         have d2:=bh.trans (cs.trans (ga.trans gb))
         exact⟨(A3 (G+1)),ct.2,ct.1,_,_,hf.sub (kp [83,82,5,4,1,84] O),hw,d1,d2,(BA _),E⟩
        ·
         have E:=A8 bi E
         refine WF.exit O (λaa ww hf hw=>?_)
         exact⟨H,I,_,_,hf.sub (kp [5,4,1] O),hw,X,bh,E⟩
      ·
       rintro aa ww ⟨ag,ah,bk,bl,hf,hw,bm,cu,E⟩
       refine WF.run ?_ hf hw
       clear hf hw ww aa
       rw[Cs] at E
       refine WF.seq (WF.seq (WF.rp (.inl O) ?_))
       have gc:=cq.mono cu
       refine QF.fa O gc Ie Ou O λjx ge=>QF.ldl Af bm.1 O ge Su O λgf cv=>QF.len O cv PZ O λjy=>QF.mv O O (AA (kp [96,95,94,5,4] O) (WF.blockJ (λa w=>∃(bn:Bool),IV B bk bl (106,[]) a w [(4,.pointer (some ⟨d,0,none⟩))] (Bx d 4 [.bool bn]::L) λ_ _=>Cr N bn=some r) ?_ ?_))
       ·
        refine WF.loopF (λgg=>λa w=>∃(M:Int) (Q:Bool) (ai:(List (AG×Bool))),IV B bk bl (106,[]) a w [(95,.int .i64 (↑c.Roads.length:Int)),(94,gf),(5,.func (.func 87) #[] #[.pointer (some ⟨g,0,none⟩),.pointer (some ⟨d,0,none⟩)]),(4,.pointer (some ⟨d,0,none⟩)),(96,.int .i64 M)] (Bx d 4 [.bool Q]::Bx g 154 [.map (some j)]::MP (λk:AG=>Value.agg (AG.v k).toArray) Value.bool j ai::L) λ_ _=>AB M∧Bs N c (Cr N) gg M Q ai=some r) N ?_ ?_ ?_
        ·
         intro aa ww hf hw
         exact⟨0,ag,ah,_,_,hf.sub (kp [95,94,5,4,96] O),hw,bm,(Bg.refl bk bl),(iq (n:=0) O),E⟩
        ·
         rintro aa ww ⟨_,_,_,_,_,_,_,_,_,_,E⟩
         rw[Bs] at E;cases E
        ·
         rintro gg aa ww ⟨M,Q,ai,jz,j0,hf,hw,Y,bo,j1,E⟩
         refine WF.run ?_ hf hw
         clear hf hw ww aa
         rw[Bs] at E
         refine WF.seq (WF.rp (.inl O) (QF.lss O O O (AA (kp [97,95,94,5,4,96] O) (WF.seq (WF.if_ O (λbp=>?_) (λbp=>?_))))))
         ·
          have E:=A7 bp E
          refine WF.skip (WF.seq (WF.block (WF.seq (WF.rl (LF.q 2 ?_)))))
          have gh:=cv.mono' bo
          obtain⟨o,d3,E⟩:=bd E
          refine QF.ixe O O gh PZ d3 O λj2 gi=>QF.ld Af Y.1 O gi OV (λe=>by cases e) O λj3 gj=>AE (LF.al Sc O Y λj4 j5 d4 cw=>?_)
          have gk:=gj.mono cw
          obtain⟨rfl,⟨gl,j6,j7,j8,j9,ka,kb⟩⟩:=Ex.ex gk
          refine Ai (vs:=[.string o.Name,.int .i64 o.From,.int .i64 o.To,.int .i64 o.Hours,.int .i64 o.Flow,.int .i64 o.By,.int .i64 o.Limit]) O O O O OV O d4 .head O λkc bq gm=>LF.nil (kp [19,95,94,5,4,96] O) (WF.rl (LF.q 3 (QF.mv O O (QF.fao O T7 O (AI Af bq O mh O Nw O (AE ?_))))))
          have d5:=bq.sel [2,2,1,0] 0 O
          obtain⟨cx,d6,E⟩:=bd E
          refine LF.call O O O Nh O (Ct (c2_:=ai) (c3_:=Q) d5 (by decide) gl d6) λkd ke kf gp p=>?_
          obtain⟨rfl,d7⟩:=p
          refine LF.nil (kp [95,94,5,4,96] O) (Ap (WF.rp (.inl O) (QF.addw O O O (QF.mv O O (AA (kp [96,95,94,5,4] O) (WF.nil (λaa ww hf hw=>?_)))))))
          have d8:=d7.sel [2,0,0] 1 O
          have d9:=bo.trans (cw.trans (gm.trans gp))
          exact⟨(A3 (M+1)),cx.2,cx.1,_,_,hf.sub (kp [95,94,5,4,96] O),hw,d8,d9,(BA _),E⟩
         ·
          have E:=A8 bp E
          refine WF.exit O (λaa ww hf hw=>?_)
          have ea:=Y.sel [0] 2 O
          exact⟨Q,_,_,hf.sub (kp [4] O),hw,ea,bo,E⟩
       ·
        rintro aa ww ⟨bn,kg,kh,hf,hw,br,gq,E⟩
        refine WF.run ?_ hf hw
        clear hf hw ww aa
        rw[Cr] at E
        refine WF.seq (WF.rp (.inl O) (AI Af br O mh O LV O (QF.as_ O O (AA (kp [2] O) (WF.ret (λaa ww hf hw=>?_))))))
        have eb:=br.drop .head
        cases E
        have ec:=e5.trans (ed.trans (ef.trans (eh.trans (ej.trans (ek.trans (eu.trans (b5.trans (ce.trans (cj.trans (cp.trans (cu.trans gq)))))))))))
        exact DC hf hw O O ec ⟨O,eb⟩
end Go.Proofs.YtibidnaedddfdaaGreat
