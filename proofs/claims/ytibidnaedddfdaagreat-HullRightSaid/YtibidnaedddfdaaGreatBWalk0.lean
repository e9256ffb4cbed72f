import Derived.Test.YtibidnaedddfdaaGreatBFacts
import Derived.Test.YtibidnaedddfdaaGreatBForms
import Derived.Test.YtibidnaedddfdaaGreatBInsert
namespace Go.Proofs.YtibidnaedddfdaaGreat
open Go.RowKit
set_option linter.unusedVariables false
set_option linter.unusedSimpArgs false
set_option maxRecDepth 10000
set_option maxHeartbeats 2000000
variable {N:Nat}{S:Nat→Prop}{L:List HP}{h:Ac}
theorem E6 (hs:St S L h) {a:Value}{c:(List AF)}(b:Sl S h AH a c) {r:(List AF)}(E:Bi N c=some r):
 Bh Tryz.prog 48 #[a] S h (λv S' h'=>St S' (OS AH 51 v r::L) h'):=by
 refine Ag (l:=[a]) 8 Tryz.func48 O Tryz.ntmps48 O λB=>?_
 rw[Bi] at E
 rcases b.cases with ⟨rfl,rfl⟩|⟨o,m,rfl,b⟩
 ·
  have E1:(some ([]))=some r:=by simpa [chk,room] using E
  refine WF.seq (WF.rp (.inl O) (QF.as_ O O (AA (kp [0] O) (WF.seq (WF.seq (WF.rp (.inl O) (QF.mv O O (O9 O O O Sk (AA (kp [4,0] O) (WF.ifT O (WF.seq (WF.rp (.inl O) (QF.as_ O O ?_)))))))))))))
  refine AA (kp [2] O) (WF.ret (λaa ww hf hw=>?_))
  have d:=hs.nil AH 51
  cases E
  exact DC hf hw O O (Bg.refl S h) d
 refine WF.seq (WF.rp (.inl O) (QF.as_ O O (AA (kp [0] O) (WF.seq (WF.seq (WF.rp (.inl O) (QF.mv O O (Qq O O O Sk (AA (kp [4,0] O) (WF.ifF O (WF.skip (WF.seq (WF.rl ?_)))))))))))))
 refine Qt (r:=AH) Na O O hs λs t g n=>LF.q 1 (QF.mv O O (AE ?_))
 have p:=b.mono' n
 obtain⟨i,E⟩:=O1 E
 refine Kx (r:=AH) (l:=([]:List AF)) (xs:=c) O O Na O (Sl.src p) O i O g (λ_=> .head) λu w j k=>LF.q 1 (QF.as_ O O (AE (LF.nil (kp [2] O) (WF.ret (λaa ww hf hw=>?_)))))
 cases E
 exact DC hf hw O O (n.trans k) j
theorem Ep (hs:St S L h) {a:Value}{c:(List AS)}(b:Sl S h Aa a c) {r:(List AS)}(E:Bf N c=some r):
 Bh Tryz.prog 49 #[a] S h (λv S' h'=>St S' (OS Aa 97 v r::L) h'):=by
 refine Ag (l:=[a]) 8 Tryz.func49 O Tryz.ntmps49 O λB=>?_
 rw[Bf] at E
 rcases b.cases with ⟨rfl,rfl⟩|⟨o,m,rfl,b⟩
 ·
  have E1:(some ([]))=some r:=by simpa [chk,room] using E
  refine WF.seq (WF.rp (.inl O) (QF.as_ O O (AA (kp [0] O) (WF.seq (WF.seq (WF.rp (.inl O) (QF.mv O O (O9 O O O Sj (AA (kp [4,0] O) (WF.ifT O (WF.seq (WF.rp (.inl O) (QF.as_ O O ?_)))))))))))))
  refine AA (kp [2] O) (WF.ret (λaa ww hf hw=>?_))
  have d:=hs.nil Aa 97
  cases E
  exact DC hf hw O O (Bg.refl S h) d
 refine WF.seq (WF.rp (.inl O) (QF.as_ O O (AA (kp [0] O) (WF.seq (WF.seq (WF.rp (.inl O) (QF.mv O O (Qq O O O Sj (AA (kp [4,0] O) (WF.ifF O (WF.skip (WF.seq (WF.rl ?_)))))))))))))
 refine Qt (r:=Aa) Rk O O hs λs t g n=>LF.q 1 (QF.mv O O (AE ?_))
 have p:=b.mono' n
 obtain⟨i,E⟩:=O1 E
 refine Kx (r:=Aa) (l:=([]:List AS)) (xs:=c) O O Rk O (Sl.src p) O i O g (λ_=> .head) λu w j k=>LF.q 1 (QF.as_ O O (AE (LF.nil (kp [2] O) (WF.ret (λaa ww hf hw=>?_)))))
 cases E
 exact DC hf hw O O (n.trans k) j
theorem GO (hs:St S L h) {b:Int}(d:AB b) {a:Int}(c:AB a) {r:Bool}(E:Ef N b a=some r):
 Bh Tryz.prog 45 #[.int .i64 b,.int .i64 a] S h (λv S' h'=>v= .bool r∧St S' (L) h'):=by
 refine Ag (l:=[.int .i64 b,.int .i64 a]) 12 Tryz.func45 O Tryz.ntmps45 O λB=>?_
 rw[Ef] at E
 refine WF.seq (WF.rp (.inl O) (QF.as_ O O (AA (kp [0,1] O) (WF.seq (WF.rp (.inl O) (QF.mv O O (QF.geq O O O (QF.mv O O (QF.cutv 4 11 (.bool ((decide (0≤b))&&(decide (b<a)))) ?_ ?_)))))))))
 ·
  cases g:(decide (0≤b))
  ·exact AL O O
  ·exact QF.gy O O O (QF.mv O O (QF.gy O O O (QF.mv O O (QF.gy O O O (QF.lss O O O (QF.pick O O O (AJ O)))))))
 refine QF.as_ O O (AA (kp [4] O) (WF.ret (λaa ww hf hw=>?_)))
 cases E
 exact DC hf hw O O (Bg.refl S h) ⟨O,hs⟩
theorem Db (hs:St S L h) {a:Int}(b:AB a) {r:AF}(E:Cn N a=some r):
 Bh Tryz.prog 66 #[.int .i64 a] S h (λv S' h'=>v= .agg #[.int .i64 r.Lo,.int .i64 r.Hi]∧AF.ok r∧St S' (L) h'):=by
 refine Ag (l:=[.int .i64 a]) 6 Tryz.func66 O Tryz.ntmps66 O λB=>?_
 rw[Cn] at E
 refine WF.seq (WF.rl (LF.al EH O hs λk m d i=>LF.nil (kp [2,0] O) (WF.seq (WF.rl (LF.q 3 (QF.mv O O (QF.mv O O (QF.bld (cs:=[.int .i64 a,.int .i64 a]) GH O O O (AE (Ai (vs:=[.int .i64 a,.int .i64 a]) O O O O Ad O d .head O λn c j=>LF.nil (kp [2] O) (WF.ret (λaa ww hf hw=>?_))))))))))))
 have g:=c.drop .head
 cases E
 exact Hq hf O hw (Gr (MA hf hw c O mh Ad O) HY) O (i.trans j) ⟨O,⟨b,b⟩,g⟩
theorem Gz (hs:St S L h) {d:Int}(i:AB d) {b:Int}(g:AB b) {a:Int}(c:AB a) {r:Int}(E:Eh N d b a=some r):
 Bh Tryz.prog 145 #[.int .i64 d,.int .i64 b,.int .i64 a] S h (λv S' h'=>v= .int .i64 r∧AB r∧St S' (L) h'):=by
 refine Ag (l:=[.int .i64 d,.int .i64 b,.int .i64 a]) 16 Tryz.func145 O Tryz.ntmps145 O λB=>?_
 rw[Eh] at E
 refine WF.seq (WF.rp (.inl O) (QF.as_ O O (AA (kp [0,1,2] O) (WF.seq (WF.seq (WF.rp (.inl O) (QF.mv O O (QF.mv O O (QF.lss O O O (AA (kp [9,0,1,2] O) (WF.if_ O (λj=>?_) (λj=>?_))))))))))))
 ·
  have E:=A7 j E
  refine WF.seq (WF.rp (.inl O) (QF.mv O O (QF.as_ O O (AA (kp [6] O) (WF.ret (λaa ww hf hw=>?_))))))
  cases E
  exact DC hf hw O O (Bg.refl S h) ⟨O,g,hs⟩
 ·
  have E:=A8 j E
  refine WF.skip (WF.seq (WF.seq (WF.rp (.inl O) (QF.mv O O (QF.mv O O (QF.gtr O O O (AA (kp [13,0,2] O) (WF.if_ O (λk=>?_) (λk=>?_)))))))))
  ·
   have E:=A7 k E
   refine WF.seq (WF.rp (.inl O) (QF.mv O O (QF.as_ O O (AA (kp [6] O) (WF.ret (λaa ww hf hw=>?_))))))
   cases E
   exact DC hf hw O O (Bg.refl S h) ⟨O,c,hs⟩
  ·
   have E:=A8 k E
   refine WF.skip (WF.seq (WF.rp (.inl O) (QF.mv O O (QF.as_ O O (AA (kp [6] O) (WF.ret (λaa ww hf hw=>?_)))))))
   cases E
   exact DC hf hw O O (Bg.refl S h) ⟨O,i,hs⟩
theorem Ok (hs:St S L h) {d:Value}{s:AT}(m:Rd S h A9 d s) {g:Value}{b:Be}(o:Rd S h D9 g b) {c:Int}(i:AB c) {r:Be}(E:IT N s b c=some r):
 Bh Tryz.prog 100 #[d,g,.int .i64 c] S h (λv S' h'=>v= .agg #[.int .i64 r.Pos,.int .i64 r.Target,.bool r.Stuck,.bool r.Open]∧Be.ok r∧St S' (L) h'):=by
 refine Ag (l:=[d,g,.int .i64 c]) 16 Tryz.func100 O Tryz.ntmps100 O λB=>?_
 rw[IT] at E
 refine WF.seq (WF.rl (LF.boxp O m (λe=>by cases e) O hs λq1 S2 h3 V e5 k6=>?_))
 have k7:=o.mono e5
 obtain⟨rfl,⟨r9,W⟩⟩:=D9.ex k7
 refine LF.box O O O V λz ai A C=>LF.al PM O A λD F j G=>LF.nil (kp [6,4,3,2] O) (WF.seq (WF.seq (WF.rp (.inl O) ?_)))
 have H:=k6.mono (C.trans G)
 refine QF.fa O H B1 Fy O λaj X=>QF.ldi Af j.1 O X AM O λak=>QF.neq O O O (AA (kp [9,6,4,3,2] O) (WF.cut (λa w=>∃(k:Int),IV B S2 F (16,[]) a w [(6,.pointer (some ⟨D,0,none⟩)),(4,.pointer (some ⟨z,0,none⟩))] (Bx D 81 [.int .i64 0,.int .i64 0,.bool false,.bool false]::Bx z 81 [.int .i64 b.Pos,.int .i64 k,.bool b.Stuck,.bool b.Open]::L) λ_ _=>AB k∧Gp N b k=some r) ?_ ?_))
 ·
  refine WF.if_ O (λx=>?_) (λx=>?_)
  ·
   have E:=A7 x E
   refine WF.rl (LF.q 3 (QF.mv O O (QF.fa O H B1 Fy O λam Y=>QF.ldi Af j.1 O Y AM O λZ=>AE ?_)))
   obtain⟨y,I,E⟩:=bd E
   refine LF.callb O O O O4 O j (Gz (St.all _) i (iq (n:=0) O) Z I) λan ao ap J ab aq p=>?_
   obtain⟨rfl,ac,ah⟩:=p
   refine LF.q 1 (QF.fao O Om O (AE (G2 (vs:=[.int .i64 y]) (cs':=[.int .i64 b.Pos,.int .i64 y,.bool b.Stuck,.bool b.Open]) O O O O AM O J (.tail .head) O O λar K ad=>LF.nil (kp [6,4] O) (WF.nil (λaa ww hf hw=>?_)))))
   exact⟨y,_,_,hf.sub (kp [6,4] O),hw,K,(ab.trans ad),ac,E⟩
  ·
   have E:=A8 x E
   refine WF.skip (WF.nil (λaa ww hf hw=>?_))
   exact⟨b.Target,_,_,hf.sub (kp [6,4] O),hw,j,(Bg.refl S2 F),W,E⟩
 ·
  rintro aa ww ⟨k,au,av,hf,hw,t,ae,af,E⟩
  refine WF.run ?_ hf hw
  clear hf hw ww aa
  rw[Gp] at E
  refine WF.seq (WF.rl (LF.q 1 (QF.ldo (vs:=[.int .i64 b.Pos,.int .i64 k,.bool b.Stuck,.bool b.Open]) Af t O (mt mh) O O HC O O (AE (Ai (vs:=[.int .i64 b.Pos,.int .i64 k,.bool b.Stuck,.bool b.Open]) O O O O HC O t .head O λaw M ag=>LF.nil (kp [6] O) (WF.ret (λaa ww hf hw=>?_)))))))
  have u:=M.drop (.tail .head)
  have Q:=u.drop .head
  cases E
  have U:=e5.trans (C.trans (G.trans (ae.trans ag)))
  exact Hq hf O hw (Gr (MA hf hw u O mh HC O) HY) O U ⟨O,⟨r9,af⟩,Q⟩
theorem Cz (hs:St S L h) {b:Int}(c:AB b) {a:Int}(d:AB a) {r:Int}(E:CN N b a=some r):
 Bh Tryz.prog 106 #[.int .i64 b,.int .i64 a] S h (λv S' h'=>v= .int .i64 r∧AB r∧St S' (L) h'):=by
 refine Ag (l:=[.int .i64 b,.int .i64 a]) 24 Tryz.func106 O Tryz.ntmps106 O λB=>?_
 rw[CN] at E
 refine WF.seq (WF.rp (.inl O) (QF.as_ O O (AA (kp [0,1] O) (WF.seq (WF.seq (WF.rp (.inl O) (QF.mv O O (QF.lss O O O (QF.mv O O (QF.cutv 5 12 (.bool ((decide (a<0))&&(decide ((A3 (9223372036854775807+a))<b)))) ?_ ?_))))))))))
 ·
  cases j:(decide (a<0))
  ·exact AL O O
  ·exact QF.gy O O O (QF.mv O O (QF.gy O O O (QF.mv O O (QF.gy O O O (QF.addw O O O (QF.gy O O O (QF.gtr O O O (QF.pick O O O (AJ O)))))))))
 refine AA (kp [12,0,1] O) (WF.if_ O (λg=>?_) (λg=>?_))
 ·
  have E:=A7 g E
  refine WF.seq (WF.rp (.inl O) (QF.as_ O O (AA (kp [4] O) (WF.ret (λaa ww hf hw=>?_)))))
  cases E
  exact DC hf hw O O (Bg.refl S h) ⟨O,(iq (n:=9223372036854775807) O),hs⟩
 ·
  have E:=A8 g E
  refine WF.skip (WF.seq (WF.seq (WF.rp (.inl O) (QF.mv O O (QF.gtr O O O (QF.mv O O (QF.cutv 5 20 (.bool ((decide (0<a))&&(decide (b<(A3 ((-9223372036854775808)+a)))))) ?_ ?_)))))))
  ·
   cases k:(decide (0<a))
   ·exact AL O O
   ·exact QF.gy O O O (QF.mv O O (QF.gy O O O (QF.mv O O (QF.gy O O O (QF.addw O O O (QF.gy O O O (QF.lss O O O (QF.pick O O O (AJ O)))))))))
  refine AA (kp [20,0,1] O) (WF.if_ O (λi=>?_) (λi=>?_))
  ·
   have E:=A7 i E
   refine WF.seq (WF.rp (.inl O) (QF.as_ O O (AA (kp [4] O) (WF.ret (λaa ww hf hw=>?_)))))
   cases E
   exact DC hf hw O O (Bg.refl S h) ⟨O,(iq (n:=(-9223372036854775808)) O),hs⟩
  ·
   have E:=A8 i E
   refine WF.skip (WF.seq (WF.rp (.inl O) (QF.mv O O (QF.mv O O (QF.subw O O O (QF.as_ O O (AA (kp [4] O) (WF.ret (λaa ww hf hw=>?_)))))))))
   cases E
   exact DC hf hw O O (Bg.refl S h) ⟨O,(BA _),hs⟩
theorem DP (hs:St S L h) {b:Int}(c:AB b) {a:Int}(d:AB a) {r:Int}(E:CR N b a=some r):
 Bh Tryz.prog 60 #[.int .i64 b,.int .i64 a] S h (λv S' h'=>v= .int .i64 r∧AB r∧St S' (L) h'):=by
 refine Ag (l:=[.int .i64 b,.int .i64 a]) 24 Tryz.func60 O Tryz.ntmps60 O λB=>?_
 rw[CR] at E
 refine WF.seq (WF.rp (.inl O) (QF.as_ O O (AA (kp [0,1] O) (WF.seq (WF.seq (WF.rp (.inl O) (QF.mv O O (QF.gtr O O O (QF.mv O O (QF.cutv 5 12 (.bool ((decide (0<a))&&(decide ((A3 (9223372036854775807-a))<b)))) ?_ ?_))))))))))
 ·
  cases j:(decide (0<a))
  ·exact AL O O
  ·exact QF.gy O O O (QF.mv O O (QF.gy O O O (QF.mv O O (QF.gy O O O (QF.subw O O O (QF.gy O O O (QF.gtr O O O (QF.pick O O O (AJ O)))))))))
 refine AA (kp [12,0,1] O) (WF.if_ O (λg=>?_) (λg=>?_))
 ·
  have E:=A7 g E
  refine WF.seq (WF.rp (.inl O) (QF.as_ O O (AA (kp [4] O) (WF.ret (λaa ww hf hw=>?_)))))
  cases E
  exact DC hf hw O O (Bg.refl S h) ⟨O,(iq (n:=9223372036854775807) O),hs⟩
 ·
  have E:=A8 g E
  refine WF.skip (WF.seq (WF.seq (WF.rp (.inl O) (QF.mv O O (QF.lss O O O (QF.mv O O (QF.cutv 5 20 (.bool ((decide (a<0))&&(decide (b<(A3 ((-9223372036854775808)-a)))))) ?_ ?_)))))))
  ·
   cases k:(decide (a<0))
   ·exact AL O O
   ·exact QF.gy O O O (QF.mv O O (QF.gy O O O (QF.mv O O (QF.gy O O O (QF.subw O O O (QF.gy O O O (QF.lss O O O (QF.pick O O O (AJ O)))))))))
  refine AA (kp [20,0,1] O) (WF.if_ O (λi=>?_) (λi=>?_))
  ·
   have E:=A7 i E
   refine WF.seq (WF.rp (.inl O) (QF.as_ O O (AA (kp [4] O) (WF.ret (λaa ww hf hw=>?_)))))
   cases E
   exact DC hf hw O O (Bg.refl S h) ⟨O,(iq (n:=(-9223372036854775808)) O),hs⟩
  ·
   have E:=A8 i E
   refine WF.skip (WF.seq (WF.rp (.inl O) (QF.mv O O (QF.mv O O (QF.addw O O O (QF.as_ O O (AA (kp [4] O) (WF.ret (λaa ww hf hw=>?_)))))))))
   cases E
   exact DC hf hw O O (Bg.refl S h) ⟨O,(BA _),hs⟩
theorem Nz (hs:St S L h) {c:Value}{k:AT}(g:Rd S h A9 c k) {d:Value}{a:Be}(i:Rd S h D9 d a) {r:Be}(E:Ir N k a=some r):
 Bh Tryz.prog 147 #[c,d] S h (λv S' h'=>v= .agg #[.int .i64 r.Pos,.int .i64 r.Target,.bool r.Stuck,.bool r.Open]∧Be.ok r∧St S' (L) h'):=by
 refine Ag (l:=[c,d]) 26 Tryz.func147 O Tryz.ntmps147 O λB=>?_
 rw[Ir] at E
 refine WF.seq (WF.rl (LF.boxp O g (λe=>by cases e) O hs λq1 S2 h3 W X k6=>?_))
 have k7:=i.mono X
 obtain⟨rfl,⟨Y,w⟩⟩:=D9.ex k7
 refine LF.box O O O W λau av A x=>LF.al PM O A λaw ax b y=>LF.nil (kp [4,3,2] O) (WF.seq (WF.seq (WF.rp (.inl O) (QF.fao O Vb O (AI Af b O (mt mh) O LV O (AA (kp [7,4,3,2] O) (WF.if_ O (λz=>?_) (λz=>?_))))))))
 ·
  have E:=A7 z E
  refine WF.seq (WF.rl (LF.q 1 (QF.ldo (vs:=[.int .i64 a.Pos,.int .i64 a.Target,.bool a.Stuck,.bool a.Open]) Af b O (mt mh) O O HC O O (AE (Ai (vs:=[.int .i64 a.Pos,.int .i64 a.Target,.bool a.Stuck,.bool a.Open]) O O O O HC O b .head O λay C Z=>LF.nil (kp [4] O) (WF.ret (λaa ww hf hw=>?_)))))))
  have m:=C.drop (.tail .head)
  have D:=m.drop .head
  cases E
  have F:=X.trans (x.trans (y.trans Z))
  exact Hq hf O hw (Gr (MA hf hw m O mh HC O) HY) O F ⟨O,⟨Y,w⟩,D⟩
 ·
  have E:=A8 z E
  refine WF.skip (WF.seq (WF.rc (.inr ⟨mo,by kernel_rfl⟩) b (QF.fao O Om O (AI Ak b O (mt mh) O AM O (QF.fao O Ls O (AI Ak b O (mt mh) O AM O ?_))))))
  obtain⟨az,G,E⟩:=bd E
  refine Ao O O O Hg O (λh' o=>Cz (St.all h') w Y G) λab=>?_
  have ac:=ab
  have H:=k6.mono (x.trans y)
  refine QF.fa O H FT IS O λa0 ad=>QF.ldi Ak b.1 O ad AM O λae=>?_
  obtain⟨a1,I,E⟩:=bd E
  refine Ao O O O Hg O (λh' o=>Cz (St.all h') (iq (n:=0) O) ae I) λaf=>?_
  have ag:=af
  refine QF.fa O H FT IS O λa2 ah=>QF.ldi Ak b.1 O ah AM O λai=>?_
  obtain⟨a3,J,E⟩:=bd E
  refine Ao O O O O4 O (λh' o=>Gz (St.all h') ac ag ai J) λaj=>?_
  have ak:=aj
  refine QF.as_ O O (Aq (kp [5,4,3] O) λa4 s am=>WF.seq (WF.rl (LF.q 3 (QF.fao O Ls O (AI Af s O (mt mh) O AM O (QF.mv O O (AE ?_)))))))
  obtain⟨j,K,E⟩:=bd E
  refine LF.callb O O O Jk O s (DP (St.all _) Y ak K) λa5 a6 a7 M an a8 p=>?_
  obtain⟨rfl,ao,ar⟩:=p
  refine LF.q 1 (QF.fao O Ls O (AE (G2 (vs:=[.int .i64 j]) (cs':=[.int .i64 j,.int .i64 a.Target,.bool a.Stuck,.bool a.Open]) O O O O AM O M (.tail .head) O O λa9 t ap=>LF.nil (kp [4,3] O) (WF.seq (WF.rl (LF.q 1 (QF.ldo (vs:=[.int .i64 j,.int .i64 a.Target,.bool a.Stuck,.bool a.Open]) Af t O (mt mh) O O HC O O (AE (Ai (vs:=[.int .i64 j,.int .i64 a.Target,.bool a.Stuck,.bool a.Open]) O O O O HC O t .head O λba Q aq=>LF.nil (kp [4] O) (WF.ret (λaa ww hf hw=>?_)))))))))))
  have u:=Q.drop (.tail .head)
  have U:=u.drop .head
  cases E
  have V:=X.trans (x.trans (y.trans (am.trans (an.trans (ap.trans aq)))))
  exact Hq hf O hw (Gr (MA hf hw u O mh HC O) HY) O V ⟨O,⟨ao,w⟩,U⟩
theorem I9 (hs:St S L h) {a:Int}(d:AB a) {b:Value}{c1_:AT}(g:Pt S h A9 b c1_) {c:Value}{c2_:AS}(i:Pt S h Aa c c2_) {r:Int}(E:Ff N c1_ c2_ a=some r):
 Bh Tryz.prog 146 #[.int .i64 a,b,c] S h (λv S' h'=>v= .int .i64 r∧AB r∧St S' (L) h'):=by
 refine Ag (l:=[.int .i64 a,b,c]) 12 Tryz.func146 O Tryz.ntmps146 O λB=>?_
 rw[Ff] at E
 refine WF.seq (WF.rp (.inl O) (QF.as_ O O (AA (kp [0,1,2] O) (WF.seq (WF.rc (.inl O) hs (QF.ld Ak hs.1 O g Dk (λe=>by cases e) O λw n=>QF.mv O O (QF.fa O i AS.f_Target M2 O λy p=>QF.ldi Ak hs.1 O p AM O λq=>QF.bld (cs:=[.int .i64 a,.int .i64 c2_.Target,.bool false,.bool false]) TG O O O ?_)))))))
 obtain⟨z,k,E⟩:=bd E
 refine Ao O O O XG O (λh' o=>Nz (St.all h') (n.mono (o.all hs.1)) (D9.mk (x:=(⟨a,c2_.Target,false,false⟩:Be)) ⟨d,q⟩) k) λs=>?_
 obtain⟨t,A⟩:=s
 refine QF.fld O Va O O (QF.as_ O O (Aq (kp [4] O) λu j m=>WF.ret (λaa ww hf hw=>?_)))
 cases E
 exact DC hf hw O O m ⟨O,t,j⟩
theorem NQ (hs:St S L h) {g:Value}{F:AT}(s:Rd S h A9 g F) {i:Value}{a:AS}(t:Rd S h Aa i a) {d:Bool}{r:AS}(E:HO N F a d=some r):
 Bh Tryz.prog 101 #[g,i,.bool d] S h (λv S' h'=>v= .agg #[.int .i64 r.Pos.Lo,.int .i64 r.Pos.Hi,.int .i64 r.Target,.int .i64 r.Open.Lo,.int .i64 r.Open.Hi]∧AS.ok r∧St S' (L) h'):=by
 refine Ag (l:=[g,i,.bool d]) 44 Tryz.func101 O Tryz.ntmps101 O λB=>?_
 rw[HO] at E
 refine WF.seq (WF.rl (LF.boxp O s (λe=>by cases e) O hs λq1 S2 h3 aj e5 k6=>?_))
 have k7:=t.mono e5
 obtain⟨rfl,⟨r9,u,w,y,z⟩⟩:=Aa.ex k7
 refine LF.box O O O aj λbe bf M A=>LF.al PL O M λbg bh c C=>LF.nil (kp [6,4,3,2] O) (WF.seq (WF.seq (WF.rp (.inl O) (QF.mv O O (AA (kp [8,6,4,3] O) (WF.if_ O (λK=>?_) (λK=>?_)))))))
 ·
  have E:=A7 K E
  refine WF.seq (WF.rp (.inl O) (QF.mkf O O O (QF.as_ O O (AA (kp [7,6,4] O) (WF.seq (EG 12 mo (by kernel_rfl) O c (QF.mv O O (QF.fao O HF O (QF.fao O DD O (AI Ak c O (mt mh) O AM O ?_))))))))))
  have Q:=k6.mono (A.trans C)
  obtain⟨j,U,E⟩:=bd E
  refine Ao O O O Uc O (λh' o=>I9 (St.all h') r9 (Q.mono (o.all c.1)) (J7.mono (c.bxAll (r:=Aa) (x:=a) (mt mh) ⟨O,⟨r9,u,w,y,z⟩⟩) ⟨λb hb=>Nat.lt_of_lt_of_le hb o.siz,λb hb=>o.same b hb,o.siz⟩) U) λak=>?_
  have am:=ak
  refine QF.mv O O (QF.fao O HF O (QF.fao O CW O (AI Ak c O (mt mh) O AM O ?_)))
  obtain⟨k,V,E⟩:=bd E
  refine Ao O O O Uc O (λh' o=>I9 (St.all h') u (Q.mono (o.all c.1)) (J7.mono (c.bxAll (r:=Aa) (x:=a) (mt mh) ⟨O,⟨r9,u,w,y,z⟩⟩) ⟨λb hb=>Nat.lt_of_lt_of_le hb o.siz,λb hb=>o.same b hb,o.siz⟩) V) λan=>?_
  have ao:=an
  refine QF.bld (cs:=[.int .i64 j,.int .i64 k]) GH O O O (QF.fao O HF O (DX λbi W ap=>G2 (vs:=[.int .i64 j,.int .i64 k]) (cs':=[.int .i64 j,.int .i64 k,.int .i64 a.Target,.int .i64 a.Open.Lo,.int .i64 a.Open.Hi]) O O O O Ad O W (.tail .head) O O λbj G aq=>LF.nil (kp [6,4] O) (WF.seq (WF.rl (LF.q 1 (QF.ldo (vs:=[.int .i64 j,.int .i64 k,.int .i64 a.Target,.int .i64 a.Open.Lo,.int .i64 a.Open.Hi]) Af G O (mt mh) O O GF O O (AE (Ai (vs:=[.int .i64 j,.int .i64 k,.int .i64 a.Target,.int .i64 a.Open.Lo,.int .i64 a.Open.Hi]) O O O O GF O G .head O λbk X ar=>LF.nil (kp [6] O) (WF.ret (λaa ww hf hw=>?_))))))))))
  have H:=X.drop (.tail .head)
  have Y:=H.drop .head
  cases E
  have Z:=e5.trans (A.trans (C.trans (ap.trans (aq.trans ar))))
  exact Hq hf O hw (Gr (MA hf hw H O mh GF O) HY) O Z ⟨O,⟨am,ao,w,y,z⟩,Y⟩
 ·
  have E:=A8 K E
  refine WF.skip (WF.seq (EG 20 mo (by kernel_rfl) O c (QF.fao O HF O (QF.fao O DD O (AI Ak c O (mt mh) O AM O ?_)))))
  have D:=k6.mono (A.trans C)
  refine QF.fa O D FT IS O λbl au=>QF.ldi Ak c.1 O au AM O λav=>?_
  obtain⟨bm,ab,E⟩:=bd E
  refine Ao O O O Hg O (λh' o=>Cz (St.all h') r9 av ab) λaw=>?_
  have ax:=aw
  refine QF.fa O D B1 Fy O λbn ay=>QF.ldi Ak c.1 O ay AM O λaz=>?_
  obtain⟨m,ac,E⟩:=bd E
  refine Ao O O O O4 O (λh' o=>Gz (St.all h') ax (iq (n:=0) O) az ac) λa0=>?_
  have a1:=a0
  refine QF.fao O HF O (QF.fao O CW O (AI Ak c O (mt mh) O AM O (QF.fa O D FT IS O λbo a2=>QF.ldi Ak c.1 O a2 AM O λa3=>?_)))
  obtain⟨bp,ad,E⟩:=bd E
  refine Ao O O O Jk O (λh' o=>DP (St.all h') u a3 ad) λa4=>?_
  have a5:=a4
  refine QF.fa O D B1 Fy O λbq a6=>QF.ldi Ak c.1 O a6 AM O λa7=>?_
  obtain⟨p,ae,E⟩:=bd E
  refine Ao O O O O4 O (λh' o=>Gz (St.all h') a5 (iq (n:=0) O) a7 ae) λa8=>?_
  have a9:=a8
  refine QF.bld (cs:=[.int .i64 m,.int .i64 p]) GH O O O (QF.fao O HF O (DX λbr af ba=>G2 (vs:=[.int .i64 m,.int .i64 p]) (cs':=[.int .i64 m,.int .i64 p,.int .i64 a.Target,.int .i64 a.Open.Lo,.int .i64 a.Open.Hi]) O O O O Ad O af (.tail .head) O O λbt I bb=>LF.nil (kp [6,4] O) (WF.seq (WF.rl (LF.q 1 (QF.ldo (vs:=[.int .i64 m,.int .i64 p,.int .i64 a.Target,.int .i64 a.Open.Lo,.int .i64 a.Open.Hi]) Af I O (mt mh) O O GF O O (AE (Ai (vs:=[.int .i64 m,.int .i64 p,.int .i64 a.Target,.int .i64 a.Open.Lo,.int .i64 a.Open.Hi]) O O O O GF O I .head O λbu ag bc=>LF.nil (kp [6] O) (WF.ret (λaa ww hf hw=>?_))))))))))
  have J:=ag.drop (.tail .head)
  have ah:=J.drop .head
  cases E
  have ai:=e5.trans (A.trans (C.trans (ba.trans (bb.trans bc))))
  exact Hq hf O hw (Gr (MA hf hw J O mh GF O) HY) O ai ⟨O,⟨a1,a9,w,y,z⟩,ah⟩
theorem K0 {k:Nat}{p0_w:Ah}{t:Value}{u:Value}{s:Value}{y:Value}{z:Value}{A:Value}{C:Value}{D:Value}{c:Value}{m:Value}{j:Value}{d:Value}(hs:St S (Bx k 106 [.string p0_w.b.Name,t,.int .i64 p0_w.b.Cells,u,s,y,z,A,C,D,.int .i64 p0_w.b.Err,.int .i64 p0_w.h.Hour,c,m,j,d]::OS AH 51 c p0_w.h.Vol::OS Aa 97 j p0_w.h.Links::OS AH 51 d p0_w.peaks::L) h) (c9:p0_w.b.Name.size≤maxLen) (da:Sl S h AW.str t p0_w.b.Owners) (db:AB p0_w.b.Cells) (dc:Sl S h BF u p0_w.b.Places) (J:Sl S h A9 s p0_w.b.Links) (dd:Sl S h E7 y p0_w.b.Towns) (de:Sl S h De z p0_w.b.Gauges) (df:Sl S h Ex A p0_w.b.Roads) (dg:Sl S h Cd C p0_w.b.Shelters) (dh:Sl S h AW.int D p0_w.b.Room) (bv:AB p0_w.b.Err) (bw:AB p0_w.h.Hour) (bx:Sl S h BO m p0_w.h.Queue) {V:Value}{G:C7}(az:Rd S h E0 V G) {p:Value}{F:(List Bool)}(W:Sl S h AW.bool p F) {r:(List AS)}(E:FL N p0_w G F=some r):
 Bh Tryz.prog 50 #[.pointer (some ⟨k,0,none⟩),V,p] S h (λv S' h'=>∃w_0_14:Value,v= .tuple #[]∧St S' (Bx k 106 [.string p0_w.b.Name,t,.int .i64 p0_w.b.Cells,u,s,y,z,A,C,D,.int .i64 p0_w.b.Err,.int .i64 p0_w.h.Hour,c,m,w_0_14,d]::OS AH 51 c p0_w.h.Vol::OS Aa 97 w_0_14 r::OS AH 51 d p0_w.peaks::L) h'):=by
 refine Ag (l:=[.pointer (some ⟨k,0,none⟩),V,p]) 155 Tryz.func50 O Tryz.ntmps50 O λB=>?_
 rw[FL] at E
 refine WF.seq (WF.rl (LF.boxp O az (λe=>by cases e) O hs λq1 S2 h3 di e5 k6=>LF.nil (kp [4,0,2] O) (WF.seq (WF.seq (WF.rp (.inl O) (QF.fa O k6 Jq Rg O λq7 k8=>QF.ldl Af di.1 O k8 V0 O λv9 dj=>QF.len O dj TM O λib=>QF.mv O O (AA (kp [16,15,14,4,0,2] O) (WF.blockJ (λa w=>∃(be:List AS),IV B S2 h3 (155,[]) a w [(4,q1),(0,.pointer (some ⟨k,0,none⟩)),(2,p)] (Bx k 106 [.string p0_w.b.Name,t,.int .i64 p0_w.b.Cells,u,s,y,z,A,C,D,.int .i64 p0_w.b.Err,.int .i64 p0_w.h.Hour,c,m,j,d]::OS AH 51 c p0_w.h.Vol::OS Aa 97 j be::OS AH 51 d p0_w.peaks::L) λ_ _=>Bb N p0_w G F be=some r) ?_ ?_))))))))
 ·
  refine WF.loopF (λn1=>λa w=>∃(aj:Int) (ab:List AS),IV B S2 h3 (155,[]) a w [(15,.int .i64 (↑G.Faults.length:Int)),(14,v9),(4,q1),(0,.pointer (some ⟨k,0,none⟩)),(2,p),(16,.int .i64 aj)] (Bx k 106 [.string p0_w.b.Name,t,.int .i64 p0_w.b.Cells,u,s,y,z,A,C,D,.int .i64 p0_w.b.Err,.int .i64 p0_w.h.Hour,c,m,j,d]::OS AH 51 c p0_w.h.Vol::OS Aa 97 j ab::OS AH 51 d p0_w.peaks::L) λ_ _=>AB aj∧BB N p0_w G (Bb N p0_w G F) n1 aj ab=some r) N ?_ ?_ ?_
  ·
   intro aa ww hf hw
   exact⟨0,p0_w.h.Links,_,_,hf.sub (kp [15,14,4,0,2,16] O),hw,di,(Bg.refl S2 h3),(iq (n:=0) O),E⟩
  ·
   rintro aa ww ⟨_,_,_,_,_,_,_,_,_,E⟩
   rw[BB] at E;cases E
  ·
   rintro n1 aa ww ⟨aj,ab,f6,f7,hf,hw,a0,a1,ic,E⟩
   refine WF.run ?_ hf hw
   clear hf hw ww aa
   rw[BB] at E
   refine WF.seq (WF.rp (.inl O) (QF.lss O O O (AA (kp [17,15,14,4,0,2,16] O) (WF.seq (WF.if_ O (λbz=>?_) (λbz=>?_))))))
   ·
    have E:=A7 bz E
    refine WF.skip (WF.seq (WF.blockJ (λa w=>∃(bf:List AS),IV B f6 f7 (155,[]) a w [(15,.int .i64 (↑G.Faults.length:Int)),(14,v9),(4,q1),(0,.pointer (some ⟨k,0,none⟩)),(2,p),(16,.int .i64 aj)] (Bx k 106 [.string p0_w.b.Name,t,.int .i64 p0_w.b.Cells,u,s,y,z,A,C,D,.int .i64 p0_w.b.Err,.int .i64 p0_w.h.Hour,c,m,j,d]::OS AH 51 c p0_w.h.Vol::OS Aa 97 j bf::OS AH 51 d p0_w.peaks::L) λ_ _=>Ci N aj (BB N p0_w G (Bb N p0_w G F) n1) bf=some r) ?_ ?_))
    ·
     refine WF.seq (WF.rl (LF.q 2 ?_))
     have f8:=dj.mono' a1
     obtain⟨ax,dk,E⟩:=bd E
     refine QF.ixe O O f8 TM dk O λie f9=>QF.ld Af a0.1 O f9 Sz (λe=>by cases e) O λig ga=>AE (LF.al WQ O a0 λih ii dl ak=>?_)
     have gb:=ga.mono ak
     obtain⟨rfl,⟨ij,gc⟩⟩:=Gg.ex gb
     refine Ai (vs:=[.int .i64 ax.Kind,.int .i64 ax.Link]) O O O O Sz O dl .head O λik ac ay=>LF.nil (kp [7,15,14,4,0,2,16] O) (WF.seq (WF.seq (WF.rc (.inr ⟨mo,by kernel_rfl⟩) ac (QF.fao O Lv O (AI Ak ac O mh O AM O (QF.mv O O (Dy O O (QF.fao O FZ O (QF.fao O Ez O (AI Ak ac O (mt mh) O HT O ?_))))))))))
     have dm:=e5.trans (a1.trans (ak.trans ay))
     have ge:=J.mono' dm
     refine QF.len O ge Fx O λgf=>?_
     obtain⟨gg,dn,E⟩:=bd E
     refine Ab O O O QB O (λh' o=>GO (St.all h') gc (Ii gf) dn) (QF.not O O (QF.mv O O ?_))
     obtain⟨gh,Q,E⟩:=bd E
     refine QF.cutv 12 42 (.bool gh) ?_ ?_
     ·
      cases dp:(!gg)
      ·
       have Q:=A8 dp Q
       refine QF.gy O O O (QF.mv O O (QF.gy O O O (Dy O O (QF.gy O O O (QF.fao O FZ O (QF.gy O O O (QF.fao O Ez O (QF.gy O O O (AI Ak ac O (mt mh) O HT O (QF.gy O O O (QF.fao O Lv O (QF.gy O O O (AI Ak ac O mh O AM O ?_)))))))))))))
       refine QF.gy O O O ?_
       have dq:=e5.trans (a1.trans (ak.trans ay))
       have gi:=J.mono' dq
       obtain⟨il,dr,Q⟩:=bd Q
       refine QF.ixe O O gi Fx dr O λim gj=>QF.gy O O O (QF.fa O gj AT.f_Kind Di O λio gk=>QF.gy O O O (QF.ldi Ak ac.1 O gk AM O λip=>QF.gy O O O (QF.neq O O O (QF.pick O O O ?_))))
       cases Q
       exact AJ O
      ·
       have Q:=A7 dp Q
       cases Q
       exact AL O O
     refine Aq (kp [42,7,15,14,4,0,2,16] O) λir K bg=>WF.if_ O (λb0=>?_) (λb0=>?_)
     ·
      have E:=A7 b0 E
      refine WF.exit O (λaa ww hf hw=>?_)
      have ds:=K.sel [1,1,1,1] 1 O
      have dt:=ak.trans (ay.trans bg)
      exact⟨ab,_,_,hf.sub (kp [15,14,4,0,2,16] O),hw,ds,dt,E⟩
     ·
      have E:=A8 b0 E
      refine WF.skip (WF.seq (WF.rp (.inl O) (QF.fao O T3 O (AI Af K O mh O AM O (AA (kp [44,7,15,14,4,0,2,16] O) (WF.block (WF.seq (WF.rp (.inl O) (QF.eql O O O (QF.as_ O O (AA (kp [45,44,7,15,14,4,0,2,16] O) (WF.if_ O (λb1=>?_) (λb1=>?_)))))))))))))
      ·
       have E:=A7 b1 E
       refine EG 10 mo (by kernel_rfl) O K (QF.mv O O (Dy O O (QF.fao O D1 O (QF.fao O FJ O (AI Ak K O (mt mh) O Hp O (QF.fao O Lv O (AI Ak K O mh O AM O ?_)))))))
       obtain⟨du,dv,E⟩:=bd E
       refine Ao O O O It O (λh' o=>Db (St.all h') (iq (n:=1) O) dv) λgl=>?_
       obtain⟨gm,gp⟩:=gl
       obtain⟨it,dw,E⟩:=bd E
       refine QF.ixoe K (mt (mt (mt mh))) O O IN dw O λiu dx=>QF.fae O dx HE O λiv dy=>DX λiw dz gq=>?_
       obtain⟨d0,d1,E⟩:=bd E
       refine LF.ste (r:=Aa) (l:=ab) (i:=ax.Link) (x:=d0) O O (AH.mk (x:=du) ⟨gm,gp⟩) dy d1 AS.u_Open Ad (λe=>by cases e) dz (.tail (.tail (.tail .head))) λiy d2 gr=>LF.nil (kp [15,14,4,0,2,16] O) (Ap (WF.nil (λaa ww hf hw=>?_)))
       have d3:=d2.sel [1,1,1,1] 1 O
       have d4:=ak.trans (ay.trans (bg.trans (gq.trans gr)))
       exact⟨(upd ab ax.Link ({ d0 with Open:=du})),_,_,hf.sub (kp [15,14,4,0,2,16] O),hw,d3,d4,E⟩
      ·
       have E:=A8 b1 E
       refine WF.seq (WF.rp (.inl O) (QF.eql O O O (QF.as_ O O (AA (kp [57,7,15,14,4,0,2,16] O) (WF.if_ O (λb2=>?_) (λb2=>?_))))))
       ·
        have E:=A7 b2 E
        refine EG 10 mo (by kernel_rfl) O K (QF.mv O O (Dy O O (QF.fao O D1 O (QF.fao O FJ O (AI Ak K O (mt mh) O Hp O (QF.fao O Lv O (AI Ak K O mh O AM O ?_)))))))
        obtain⟨d5,d6,E⟩:=bd E
        refine Ao O O O It O (λh' o=>Db (St.all h') (iq (n:=0) O) d6) λgs=>?_
        obtain⟨gu,gv⟩:=gs
        obtain⟨iz,d7,E⟩:=bd E
        refine QF.ixoe K (mt (mt (mt mh))) O O IN d7 O λi0 d8=>QF.fae O d8 HE O λi1 d9=>DX λi2 ea gw=>?_
        obtain⟨eb,ec,E⟩:=bd E
        refine LF.ste (r:=Aa) (l:=ab) (i:=ax.Link) (x:=eb) O O (AH.mk (x:=d5) ⟨gu,gv⟩) d9 ec AS.u_Open Ad (λe=>by cases e) ea (.tail (.tail (.tail .head))) λi3 ed gx=>LF.nil (kp [15,14,4,0,2,16] O) (Ap (WF.nil (λaa ww hf hw=>?_)))
        have ee:=ed.sel [1,1,1,1] 1 O
        have b3:=ak.trans (ay.trans (bg.trans (gw.trans gx)))
        exact⟨(upd ab ax.Link ({ eb with Open:=d5})),_,_,hf.sub (kp [15,14,4,0,2,16] O),hw,ee,b3,E⟩
       ·
        have E:=A8 b2 E
        refine WF.skip (Ap (WF.nil (λaa ww hf hw=>?_)))
        have b4:=K.sel [1,1,1,1] 1 O
        have b5:=ak.trans (ay.trans bg)
        exact⟨ab,_,_,hf.sub (kp [15,14,4,0,2,16] O),hw,b4,b5,E⟩
    ·
     rintro aa ww ⟨bf,gz,g0,hf,hw,b6,ef,E⟩
     refine WF.run ?_ hf hw
     clear hf hw ww aa
     rw[Ci] at E
     refine WF.rp (.inl O) (QF.addw O O O (QF.mv O O (AA (kp [16,15,14,4,0,2] O) (WF.nil (λaa ww hf hw=>?_)))))
     exact⟨(A3 (aj+1)),bf,_,_,hf.sub (kp [15,14,4,0,2,16] O),hw,b6,(a1.trans ef),(BA _),E⟩
   ·
    have E:=A8 bz E
    refine WF.exit O (λaa ww hf hw=>?_)
    exact⟨ab,_,_,hf.sub (kp [4,0,2] O),hw,a0,a1,E⟩
 ·
  rintro aa ww ⟨be,a2,a3,hf,hw,a4,X,E⟩
  refine WF.run ?_ hf hw
  clear hf hw ww aa
  rw[Bb] at E
  refine WF.seq (WF.seq (WF.rp (.inl O) ?_))
  have eg:=k6.mono X
  refine QF.fa O eg LC Rf O λg1 eh=>QF.ldl Af a4.1 O eh Vz O λbh bi=>QF.len O bi TL O λg2=>QF.mv O O (AA (kp [73,72,71,0,2] O) (WF.blockJ (λa w=>∃(ap:List AS),IV B a2 a3 (155,[]) a w [(0,.pointer (some ⟨k,0,none⟩)),(2,p)] (Bx k 106 [.string p0_w.b.Name,t,.int .i64 p0_w.b.Cells,u,s,y,z,A,C,D,.int .i64 p0_w.b.Err,.int .i64 p0_w.h.Hour,c,m,j,d]::OS AH 51 c p0_w.h.Vol::OS Aa 97 j ap::OS AH 51 d p0_w.peaks::L) λ_ _=>Ba N p0_w F ap=some r) ?_ ?_))
  ·
   refine WF.loopF (λn4=>λa w=>∃(Y:Int) (Z:List AS),IV B a2 a3 (155,[]) a w [(72,.int .i64 (↑G.Cmds.length:Int)),(71,bh),(0,.pointer (some ⟨k,0,none⟩)),(2,p),(73,.int .i64 Y)] (Bx k 106 [.string p0_w.b.Name,t,.int .i64 p0_w.b.Cells,u,s,y,z,A,C,D,.int .i64 p0_w.b.Err,.int .i64 p0_w.h.Hour,c,m,j,d]::OS AH 51 c p0_w.h.Vol::OS Aa 97 j Z::OS AH 51 d p0_w.peaks::L) λ_ _=>AB Y∧BR N p0_w G (Ba N p0_w F) n4 Y Z=some r) N ?_ ?_ ?_
   ·
    intro aa ww hf hw
    exact⟨0,be,_,_,hf.sub (kp [72,71,0,2,73] O),hw,a4,(Bg.refl a2 a3),(iq (n:=0) O),E⟩
   ·
    rintro aa ww ⟨_,_,_,_,_,_,_,_,_,E⟩
    rw[BR] at E;cases E
   ·
    rintro n4 aa ww ⟨Y,Z,ei,ej,hf,hw,am,af,g3,E⟩
    refine WF.run ?_ hf hw
    clear hf hw ww aa
    rw[BR] at E
    refine WF.seq (WF.rp (.inl O) (QF.lss O O O (AA (kp [74,72,71,0,2,73] O) (WF.seq (WF.if_ O (λa5=>?_) (λa5=>?_))))))
    ·
     have E:=A7 a5 E
     refine WF.skip (WF.seq (WF.blockJ (λa w=>∃(aq:List AS),IV B ei ej (155,[]) a w [(72,.int .i64 (↑G.Cmds.length:Int)),(71,bh),(0,.pointer (some ⟨k,0,none⟩)),(2,p),(73,.int .i64 Y)] (Bx k 106 [.string p0_w.b.Name,t,.int .i64 p0_w.b.Cells,u,s,y,z,A,C,D,.int .i64 p0_w.b.Err,.int .i64 p0_w.h.Hour,c,m,j,d]::OS AH 51 c p0_w.h.Vol::OS Aa 97 j aq::OS AH 51 d p0_w.peaks::L) λ_ _=>Dq N Y (BR N p0_w G (Ba N p0_w F) n4) aq=some r) ?_ ?_))
     ·
      refine WF.seq (WF.rl (LF.q 2 ?_))
      have ek:=bi.mono' af
      obtain⟨ar,b7,E⟩:=bd E
      refine QF.ixe O O ek TL b7 O λg4 el=>QF.ld Af am.1 O el Sy (λe=>by cases e) O λg5 em=>AE (LF.al WP O am λg6 g7 b8 ag=>?_)
      have en:=em.mono ag
      obtain⟨rfl,⟨eo,ep⟩⟩:=Iv.ex en
      refine Ai (vs:=[.int .i64 ar.Link,.int .i64 ar.Target]) O O O O Sy O b8 .head O λg8 an au=>LF.nil (kp [9,72,71,0,2,73] O) (WF.seq (WF.rc (.inr ⟨mo,by kernel_rfl⟩) an (QF.fao O NT O (AI Ak an O mh O AM O (QF.mv O O (Dy O O (QF.fao O FZ O (QF.fao O Ez O (AI Ak an O (mt mh) O HT O ?_)))))))))
      have b9:=e5.trans (X.trans (af.trans (ag.trans au)))
      have eq:=J.mono' b9
      refine QF.len O eq Fx O λer=>?_
      obtain⟨g9,ca,E⟩:=bd E
      refine Ab O O O QB O (λh' o=>GO (St.all h') eo (Ii er) ca) (Aq (kp [85,9,72,71,0,2,73] O) λha I a6=>WF.if_ O (λa7=>?_) (λa7=>?_))
      ·
       have E:=A7 a7 E
       refine WF.seq (WF.rp (.inr ⟨mo,by kernel_rfl⟩) (QF.mv O O (Dy O O (QF.fao O D1 O (QF.fao O FJ O (AI Af I O (mt mh) O Hp O (QF.fao O NT O (AI Af I O mh O AM O ?_))))))))
       obtain⟨hb,cb,E⟩:=bd E
       refine QF.ixoe I (mt (mt (mt mh))) O O IN cb O λhc ae=>QF.as_ O O (AA (kp [10,9,72,71,0,2,73] O) (EG 21 mo (by kernel_rfl) O I (QF.mv O O (QF.mv O O (Dy O O (QF.fao O FZ O (QF.fao O Ez O (AI Ak I O (mt mh) O HT O (QF.fao O NT O (AI Ak I O mh O AM O ?_))))))))))
       have cc:=e5.trans (X.trans (af.trans (ag.trans (au.trans a6))))
       have es:=J.mono' cc
       obtain⟨hd,cd,E⟩:=bd E
       refine QF.ixe O O es Fx cd O λhe et=>QF.ld Ak I.1 O et Dk (λe=>by cases e) O λhg eu=>QF.mv O O (Uw O ae O (QF.fae O ae M2 O λhh ce=>?_))
       obtain⟨bj,cf,E⟩:=bd E
       have ev:=I.epAt (mt (mt (mt mh))) cf AS.f_Target ce
       refine QF.ldi Ak (λ_ x=>x) O ev AM O λew=>QF.bld (cs:=[.int .i64 0,.int .i64 bj.Target,.bool false,.bool false]) TG O O O (QF.fao O T1 O (AI Ak I O mh O AM O ?_))
       obtain⟨bk,cg,E⟩:=bd E
       refine Ao O O O XT O (λh' o=>Ok (St.all h') (eu.mono (o.all I.1)) (D9.mk (x:=(⟨0,bj.Target,false,false⟩:Be)) ⟨(iq (n:=0) O),ew⟩) ep cg) λey=>?_
       obtain⟨hi,ez⟩:=ey
       refine QF.fld O VZ O O (Uw O ae O (QF.fae O ae M2 O λhj ch=>DX λhk ci e0=>?_))
       obtain⟨bl,cj,E⟩:=bd E
       refine LF.ste (r:=Aa) (l:=Z) (i:=ar.Link) (x:=bl) O O (⟨_,O,O,ez⟩:Rd _ _ AW.int _ bk.Target) ch cj AS.u_Target AM (λ_=>rfl) ci (.tail (.tail (.tail .head))) λhl ck e1=>LF.nil (kp [72,71,0,2,73] O) (WF.nil (λaa ww hf hw=>?_))
       have cl:=ck.sel [1,1,1,1] 1 O
       have cm:=ag.trans (au.trans (a6.trans (e0.trans e1)))
       exact⟨(upd Z ar.Link ({ bl with Target:=bk.Target})),_,_,hf.sub (kp [72,71,0,2,73] O),hw,cl,cm,E⟩
      ·
       have E:=A8 a7 E
       refine WF.skip (WF.nil (λaa ww hf hw=>?_))
       have cn:=I.sel [1,1,1,1] 1 O
       have co:=ag.trans (au.trans a6)
       exact⟨Z,_,_,hf.sub (kp [72,71,0,2,73] O),hw,cn,co,E⟩
     ·
      rintro aa ww ⟨aq,hm,hn,hf,hw,cp,e2,E⟩
      refine WF.run ?_ hf hw
      clear hf hw ww aa
      rw[Dq] at E
      refine WF.rp (.inl O) (QF.addw O O O (QF.mv O O (AA (kp [73,72,71,0,2] O) (WF.nil (λaa ww hf hw=>?_)))))
      exact⟨(A3 (Y+1)),aq,_,_,hf.sub (kp [72,71,0,2,73] O),hw,cp,(af.trans e2),(BA _),E⟩
    ·
     have E:=A8 a5 E
     refine WF.exit O (λaa ww hf hw=>?_)
     exact⟨Z,_,_,hf.sub (kp [0,2] O),hw,am,af,E⟩
  ·
   rintro aa ww ⟨ap,bm,bn,hf,hw,a8,av,E⟩
   refine WF.run ?_ hf hw
   clear hf hw ww aa
   rw[Ba] at E
   refine WF.seq (WF.rp (.inl O) (QF.mv O O (Dy O O (QF.fao O FZ O (QF.fao O Ez O (AI Af a8 O mh O HT O ?_))))))
   have cq:=e5.trans (X.trans av)
   have bo:=J.mono' cq
   refine QF.len O bo Fx O λho=>QF.mv O O (AA (kp [122,121,120,0,2] O) (WF.block (WF.loopF (λn6=>λa w=>∃(U:Int) (ah:List AS),IV B bm bn (155,[]) a w [(121,.int .i64 (↑p0_w.b.Links.length:Int)),(120,s),(0,.pointer (some ⟨k,0,none⟩)),(2,p),(122,.int .i64 U)] (Bx k 106 [.string p0_w.b.Name,t,.int .i64 p0_w.b.Cells,u,s,y,z,A,C,D,.int .i64 p0_w.b.Err,.int .i64 p0_w.h.Hour,c,m,j,d]::OS AH 51 c p0_w.h.Vol::OS Aa 97 j ah::OS AH 51 d p0_w.peaks::L) λ_ _=>AB U∧Ch N p0_w F n6 U ah=some r) N ?_ ?_ ?_)))
   ·
    intro aa ww hf hw
    exact⟨0,ap,_,_,hf.sub (kp [121,120,0,2,122] O),hw,a8,(Bg.refl bm bn),(iq (n:=0) O),E⟩
   ·
    rintro aa ww ⟨_,_,_,_,_,_,_,_,_,E⟩
    rw[Ch] at E;cases E
   ·
    rintro n6 aa ww ⟨U,ah,hp,hq,hf,hw,ao,ai,hr,E⟩
    refine WF.run ?_ hf hw
    clear hf hw ww aa
    rw[Ch] at E
    refine WF.seq (WF.rp (.inl O) (QF.lss O O O (AA (kp [123,121,120,0,2,122] O) (WF.seq (WF.if_ O (λa9=>?_) (λa9=>?_))))))
    ·
     have E:=A7 a9 E
     refine WF.skip (WF.seq (WF.block (WF.seq (WF.rl (LF.q 3 (QF.mv O O ?_))))))
     have e3:=bo.mono' ai
     obtain⟨g,cr,E⟩:=bd E
     refine QF.ixe O O e3 Fx cr O λht e4=>QF.ld Af ao.1 O e4 Dk (λe=>by cases e) O λhu e6=>AE (LF.al LE O ao λhv hx ct aw=>LF.q 1 (QF.as_ O O (AE ?_)))
     have e7:=e6.mono aw
     obtain⟨ba,bb,bc,rfl,e8,e9,fb,fc,bp,bq,br,fd,fe,ff,fg,fh,fi,fj,fk,fl,fm,fn⟩:=A9.ex e7
     refine LF.st (vs:=[.string g.Name,.int .i64 g.Kind,.int .i64 g.From,.int .i64 g.To,ba,bb,bc,.int .i64 g.Positions,.int .i64 g.Speed,.int .i64 g.Leak,.int .i64 g.Crest,.int .i64 g.Num,.int .i64 g.Den,.int .i64 g.Prime,.int .i64 g.Break,.int .i64 g.BackNum,.int .i64 g.BackDen,.int .i64 g.Delay]) (cs':=[.string g.Name,.int .i64 g.Kind,.int .i64 g.From,.int .i64 g.To,ba,bb,bc,.int .i64 g.Positions,.int .i64 g.Speed,.int .i64 g.Leak,.int .i64 g.Crest,.int .i64 g.Num,.int .i64 g.Den,.int .i64 g.Prime,.int .i64 g.Break,.int .i64 g.BackNum,.int .i64 g.BackDen,.int .i64 g.Delay]) O O O (AD O (AD O (AD O (AD O (AD bp.one (AD bq.one (AD br.one (AD O (AD O (AD O (AD O (AD O (AD O (AD O (AD O (AD O (AD O (AD O EI)))))))))))))))))) Dk O ct .head O O λhy H ad=>LF.nil (kp [11,12,121,120,0,2,122] O) (EG 27 mo (by kernel_rfl) O H (QF.mv O O (Dy O O (QF.fao O D1 O (QF.fao O FJ O (AI Ak H O (mt mh) O Hp O (QF.mv O O (QF.ldo (vs:=[.string g.Name,.int .i64 g.Kind,.int .i64 g.From,.int .i64 g.To,ba,bb,bc,.int .i64 g.Positions,.int .i64 g.Speed,.int .i64 g.Leak,.int .i64 g.Crest,.int .i64 g.Num,.int .i64 g.Den,.int .i64 g.Prime,.int .i64 g.Break,.int .i64 g.BackNum,.int .i64 g.BackDen,.int .i64 g.Delay]) Ak H O mh O O Dk O O ?_))))))))
     refine QF.mv O O (Dy O O (QF.fao O D1 O (QF.fao O FJ O (AI Ak H O (mt mh) O Hp O (QF.mv O O ?_)))))
     obtain⟨hz,cu,E⟩:=bd E
     refine QF.ixoe H (mt (mt (mt mh))) O O IN cu O λh0 cv=>?_
     obtain⟨h1,cw,E⟩:=bd E
     have fo:=H.epAt (mt (mt (mt mh))) cw ED.id cv
     refine QF.ld Ak (λ_ x=>x) O fo GF (λe=>by cases e) O λh2 fp=>QF.mv O O (QF.mv O O ?_)
     have cx:=e5.trans (X.trans (av.trans (ai.trans (aw.trans ad))))
     have fq:=W.mono' cx
     refine QF.len O fq TJ O λh4=>QF.lss O O O (QF.mv O O ?_)
     obtain⟨fr,M,E⟩:=bd E
     refine QF.cutv 5 151 (.bool fr) ?_ ?_
     ·
      cases bt:(decide (U<(↑F.length:Int)))
      ·
       have M:=A8 bt M
       cases M
       exact AL O O
      ·
       have M:=A7 bt M
       refine QF.gy O O O (QF.mv O O (QF.gy O O O (QF.mv O O (QF.gy O O O ?_))))
       have cy:=e5.trans (X.trans (av.trans (ai.trans (aw.trans ad))))
       have fs:=W.mono' cy
       obtain⟨h5,cz,M⟩:=bd M
       refine QF.ixe O O fs TJ cz O λh6 ft=>QF.gy O O O (QF.ldb Ak H.1 O ft LV O (QF.pick O O O ?_))
       cases M
       exact AJ O
     have fu:=bp.mono' ad
     have fv:=bq.mono' ad
     have fw:=br.mono' ad
     obtain⟨bu,c0,E⟩:=bd E
     refine Ao O O O XS O (λh' o=>NQ (St.all h') (A9.mk (x:=g) e8 e9 fb fc (fu.mono' (o.all H.1)) (fv.mono' (o.all H.1)) (fw.mono' (o.all H.1)) fd fe ff fg fh fi fj fk fl fm fn) (fp.mono (o.all H.1)) c0) λfx=>?_
     obtain⟨fy,fz,f0,f1,f2⟩:=fx
     obtain⟨h7,c1,E⟩:=bd E
     refine QF.ixoe H (mt (mt (mt mh))) O O IN c1 O λh8 c2=>DX λh9 c3 f3=>?_
     obtain⟨f4,c4,E⟩:=bd E
     refine LF.ste (r:=Aa) (l:=ah) (i:=U) (x:=f4) O O (Aa.mk (x:=bu) ⟨fy,fz,f0,f1,f2⟩) c2 c4 L0.id GF (λe=>by cases e) c3 (.tail (.tail (.tail .head))) λia c5 f5=>LF.nil (kp [121,120,0,2,122] O) (Ap (WF.rp (.inl O) (QF.addw O O O (QF.mv O O (AA (kp [122,121,120,0,2] O) (WF.nil (λaa ww hf hw=>?_)))))))
     have c6:=c5.sel [1,1,1,1] 1 O
     have c7:=ai.trans (aw.trans (ad.trans (f3.trans f5)))
     exact⟨(A3 (U+1)),(upd ah U bu),_,_,hf.sub (kp [121,120,0,2,122] O),hw,c6,c7,(BA _),E⟩
    ·
     have E:=A8 a9 E
     refine JE O (WF.nil (λaa ww hf hw=>?_))
     cases E
     have c8:=e5.trans (X.trans (av.trans ai))
     exact Hq hf O hw HY O c8 ⟨_,O,ao⟩
end Go.Proofs.YtibidnaedddfdaaGreat
