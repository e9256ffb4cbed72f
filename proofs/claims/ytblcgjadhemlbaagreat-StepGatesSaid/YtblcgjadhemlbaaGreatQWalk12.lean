import Derived.Test.YtblcgjadhemlbaaGreatQWalk11
namespace Go.Proofs.YtblcgjadhemlbaaGreat
open Go.RowKit
set_option linter.unusedVariables false
set_option linter.unusedSimpArgs false
set_option maxRecDepth 10000
set_option maxHeartbeats 2000000
variable {N:Nat}{S:Nat→Prop}{L:List HP}{h:Aq}
theorem Gc (hs:St S L h) {b:Int}(j:AI b) {r:(List AM)}(E:Bo N b=some r):
 CG Tryz.prog 82 #[.slice none 0 0,.int .i64 b] S h (λv S' h'=>St S' (OS Ao 111 v r::L) h'):=by
 refine BC (l:=[.slice none 0 0,.int .i64 b]) 27 Tryz.func82 O Tryz.ntmps82 O λB=>?_
 rw[Bo] at E
 refine AA (AG (.inl O) (AF O O (AD (kp [0,1] O) (AA (AA (AG (.inl O) (AB O O (A0 O O O (AD (kp [6,0,1] O) (AW O (λk=>?_) (λk=>?_)))))))))))
 ·have E:=BU k E
  cases E
 have E:=BV k E
 refine AT (AA (AA (AG (.inl O) (AB O O (AB O O (TW O K3 O (AB O O (MU O K3 O (Dg O O O (Dg O O O (AF O O (AD (kp [1,0] O) (AA (AG (.inl O) (AB O O (CE O O O (AD (kp [16,1,0] O) (GW (λa w=>∃(m:Value) (n:List AM),IV B S h (27,[]) a w [(0,m)] (OS Ao 111 m n::L) λ_ _=>Be N n=some r) ?_ ?_))))))))))))))))))
 ·refine AW O (λo=>?_) (λo=>?_)
  ·have E:=BU o E
   refine Am (AJ 5 (AB O O (AB O O (TW O K3 O (Y0 O O K3 O (AB O O (AE ?_)))))))
   obtain⟨p,E⟩:=Ly E
   obtain⟨s,E⟩:=Ly E
   refine XA O O Kg cZ (of_decide_eq_true p) s O O hs λz A C D F t u c x=>AJ 4 (AB O O (MU O K3 O (Yz O O K3 O ?_)))
   have d:=Vv (r:=Ao) (l:=([]:List AM)) c (Nat.zero_le _) t u Um
   refine AF O O (AE (AX (kp [0] O) (WF.nil (λaa ww hf hw=>?_))))
   exact⟨(.slice (some ⟨z,0,none⟩) 0 A),([]:List AM),_,_,hf.sub (kp [0] O),hw,d,x,E⟩
  have E:=BV o E
  refine AT (WF.nil (λaa ww hf hw=>?_))
  have g:=hs.nil Ao 111
  exact⟨(.slice none 0 0),([]:List AM),_,_,hf.sub (kp [0] O),hw,g,(B8.refl S h),E⟩
 rintro aa ww ⟨m,n,G,H,hf,hw,i,y,E⟩
 refine Ad ?_ hf hw
 clear hf hw ww aa
 rw[Be] at E
 refine AA (AG (.inl O) (AB O O (AF O O (AD (kp [4] O) (Ab (λaa ww hf hw=>?_))))))
 cases E
 exact Dp hf hw O O y i
theorem GN (hs:St S L h) {b:Value}{c:(List (List AM))}(d:Sl S h (AN.sl Ao) b c) {r:(List AM)}(E:Bj N c=some r):
 CG Tryz.prog 61 #[b] S h (λv S' h'=>St S' (OS Ao 111 v r::L) h'):=by
 refine BC (l:=[b]) 36 Tryz.func61 O Tryz.ntmps61 O λB=>?_
 rw[Bj] at E
 refine AA (AG (.inl O) (AF O O (AD (kp [0] O) (AA (AG (.inl O) (AF O O (AD (kp [3,0] O) (AA (AA (AG (.inl O) (AB O O (Ag O d QH O λb1=>AB O O (AD (kp [11,10,9,3,0] O) (Aj (λa w=>∃(i2:Int),IV B S h (36,[]) a w [(0,b),(3,.int .i64 i2)] (L) λ_ _=>AI i2∧Bc N c i2=some r) ?_ ?_))))))))))))))
 ·refine Ay (λn1=>λa w=>∃(F:Int) (i:Int),IV B S h (36,[]) a w [(10,.int .i64 (↑c.length:Int)),(9,b),(0,b),(3,.int .i64 F),(11,.int .i64 i)] (L) λ_ _=>AI F∧AI i∧BO N c (Bc N c) n1 F i=some r) N ?_ ?_ ?_
  ·intro aa ww hf hw
   exact⟨0,0,_,_,hf.sub (kp [10,9,0,3,11] O),hw,hs,(B8.refl S h),(iq (n:=0) O),(iq (n:=0) O),E⟩
  ·rintro aa ww ⟨_,_,_,_,_,_,_,_,_,_,E⟩
   rw[BO] at E;cases E
  rintro n1 aa ww ⟨F,i,an,ao,hf,hw,j,s,r9,ap,E⟩
  refine Ad ?_ hf hw
  clear hf hw ww aa
  rw[BO] at E
  refine AA (AG (.inl O) (A0 O O O (AD (kp [12,10,9,0,3,11] O) (AA (AW O (λt=>?_) (λt=>?_))))))
  ·have E:=BU t E
   refine AT (AA (A6 (AA (AG (.inl O) ?_))))
   have ab:=d.mono' s
   obtain⟨ac,G,E⟩:=bd E
   refine A8 O O ab QH G O λaq ad=>Ah A3 j.1 O ad UN O λar ae=>AF O O (AD (kp [5,10,9,0,3,11] O) (AA (AG (.inl O) (AB O O (AB O O (Ag O ae K3 O λau=>Ap O O O (AF O O (AD (kp [3,10,9,0,11] O) (AA (AG (.inl O) (AB O O (A0 O O O (AD (kp [20,3,10,9,0,11] O) (AW O (λu=>?_) (λu=>?_)))))))))))))))
   ·have E:=BU u E
    cases E
   have E:=BV u E
   refine AT (BJ (AG (.inl O) (Ap O O O (AB O O (AD (kp [11,3,10,9,0] O) (WF.nil (λaa ww hf hw=>?_)))))))
   exact⟨(BD (F+(↑ac.length:Int))),(BD (i+1)),_,_,hf.sub (kp [10,9,0,3,11] O),hw,j,s,(BG _),(BG _),E⟩
  have E:=BV t E
  refine BB O (λaa ww hf hw=>?_)
  exact⟨F,_,_,hf.sub (kp [0,3] O),hw,j,s,r9,E⟩
 rintro aa ww ⟨i2,av,aw,hf,hw,H,I,r3,E⟩
 refine Ad ?_ hf hw
 clear hf hw ww aa
 rw[Bc] at E
 refine AA (Am (AJ 1 (AB O O (AE ?_))))
 obtain⟨af,J,E⟩:=bd E
 refine Cr O O O aO O (Gc H r3 J) λag x y K p=>?_
 have M:=p
 refine AJ 1 (AF O O (AE (AX (kp [6,0] O) (AA (AA (AG (.inl O) (AB O O ?_)))))))
 have Q:=d.mono' (I.trans K)
 refine Ag O Q QH O λax=>AB O O (AD (kp [27,26,25,6] O) (Aj (λa w=>∃(z:Value) (A:List AM),IV B x y (36,[]) a w [(6,z)] (OS Ao 111 z A::L) λ_ _=>B4 N A=some r) ?_ ?_))
 ·refine Ay (λn3=>λa w=>∃(o:Value) (g:List AM) (k:Int),IV B x y (36,[]) a w [(26,.int .i64 (↑c.length:Int)),(25,b),(6,o),(27,.int .i64 k)] (OS Ao 111 o g::L) λ_ _=>AI k∧BM N c (B4 N) n3 g k=some r) N ?_ ?_ ?_
  ·intro aa ww hf hw
   exact⟨ag,af,0,_,_,hf.sub (kp [26,25,6,27] O),hw,M,(B8.refl x y),(iq (n:=0) O),E⟩
  ·rintro aa ww ⟨_,_,_,_,_,_,_,_,_,_,E⟩
   rw[BM] at E;cases E
  rintro n3 aa ww ⟨o,g,k,ay,az,hf,hw,m,C,a0,E⟩
  refine Ad ?_ hf hw
  clear hf hw ww aa
  rw[BM] at E
  refine AA (AG (.inl O) (A0 O O O (AD (kp [28,26,25,6,27] O) (AA (AW O (λD=>?_) (λD=>?_))))))
  ·have E:=BU D E
   refine AT (AA (A6 (AA (AG (.inl O) ?_))))
   have ah:=Q.mono' C
   obtain⟨U,V,E⟩:=bd E
   refine A8 O O ah QH V O λa1 ai=>Ah A3 m.1 O ai UN O λa2 aj=>AF O O (AD (kp [8,26,25,6,27] O) (Am (AJ 2 (AB O O (AB O O (AE ?_))))))
   obtain⟨W,E⟩:=Ly E
   refine I8 (r:=Ao) (l:=g) (xs:=U) O O Kg O (Sl.src aj) O W O m (λ_=> .head) λak a3 X al=>AJ 1 (AF O O (AE (AX (kp [6,26,25,27] O) (BJ (AG (.inl O) (Ap O O O (AB O O (AD (kp [27,6,26,25] O) (WF.nil (λaa ww hf hw=>?_))))))))))
   exact⟨ak,(g++U),(BD (k+1)),_,_,hf.sub (kp [26,25,6,27] O),hw,X,(C.trans al),(BG _),E⟩
  have E:=BV D E
  refine BB O (λaa ww hf hw=>?_)
  exact⟨o,g,_,_,hf.sub (kp [6] O),hw,m,C,E⟩
 rintro aa ww ⟨z,A,a4,a5,hf,hw,Y,am,E⟩
 refine Ad ?_ hf hw
 clear hf hw ww aa
 rw[B4] at E
 refine AA (AG (.inl O) (AB O O (AF O O (AD (kp [2] O) (Ab (λaa ww hf hw=>?_))))))
 cases E
 have Z:=I.trans (K.trans am)
 exact Dp hf hw O O Z Y
theorem Jl (hs:St S L h) {c:Value}{j:(List Int)}(k:Sl S h AN.int c j) {d:Value}{m:(Int→Option Bool)}(p:Rd S h (AN.fn Tryz.prog (λx:Int=>([.int .i64 x]:List Value)) (λx:Int=>AI x) (λy:Bool=> .bool y) (λy:Bool=>True)) d m) {r:Int}(E:FG N j m=some r):
 CG Tryz.prog 107 #[c,d] S h (λv S' h'=>v= .int .i64 r∧AI r∧St S' (L) h'):=by
 refine BC (l:=[c,d]) 19 Tryz.func107 O Tryz.ntmps107 O λB=>?_
 rw[FG] at E
 obtain⟨F,G,rfl,H,I⟩:=p.fn
 refine AA (AG (.inl O) (AF O O (AD (kp [0,1] O) (AA (AA (AG (.inl O) (AB O O (Ag O k BP O λb5=>AB O O (AD (kp [8,7,0,1] O) (Aj (λa w=>IV B S h (19,[]) a w [] (L) λ_ _=>DX N=some r) ?_ ?_))))))))))
 ·refine Ay (λU=>λa w=>∃(u:Int),IV B S h (19,[]) a w [(7,.int .i64 (↑j.length:Int)),(0,c),(1,(.func (.func F) #[] G)),(8,.int .i64 u)] (L) λ_ _=>AI u∧CP N j m (DX N) U u=some r) N ?_ ?_ ?_
  ·intro aa ww hf hw
   exact⟨0,_,_,hf.sub (kp [7,0,1,8] O),hw,hs,(B8.refl S h),(iq (n:=0) O),E⟩
  ·rintro aa ww ⟨_,_,_,_,_,_,_,_,E⟩
   rw[CP] at E;cases E
  rintro U aa ww ⟨u,V,W,hf,hw,g,i,X,E⟩
  refine Ad ?_ hf hw
  clear hf hw ww aa
  rw[CP] at E
  refine AA (AG (.inl O) (A0 O O O (AD (kp [9,7,0,1,8] O) (AA (AW O (λs=>?_) (λs=>?_))))))
  ·have E:=BU s E
   refine AT (AA (A6 (AA (AG (.inl O) (AB O O (AF O O (AD (kp [5,7,0,1,8] O) (AA (Bn (.inl O) g (AB O O (AB O O (AB O O ?_))))))))))))
   have J:=k.mono' i
   obtain⟨Y,z,E⟩:=bd E
   refine A8 O O J BP z O λZ K=>Af BZ g.1 O K Ae O λM=>?_
   obtain⟨ab,A,E⟩:=bd E
   refine Aw O O O H O (λh' o=>I _ h' (λb hb=>Nat.lt_of_lt_of_le (g.1 b (i.sub b hb)) o.siz) (λb hb=>(o.same b (g.1 b (i.sub b hb))).trans (i.same b hb)) [] (St.all h') _ _ M A) (BK (kp [16,5,7,0,1,8] O) λac q C=>AW O (λt=>?_) (λt=>?_))
   ·have E:=BU t E
    refine AA (AG (.inl O) (AB O O (AF O O (AD (kp [4] O) (Ab (λaa ww hf hw=>?_))))))
    cases E
    exact Dp hf hw O O (i.trans C) ⟨O,X,q⟩
   have E:=BV t E
   refine AT (BJ (AG (.inl O) (Ap O O O (AB O O (AD (kp [8,7,0,1] O) (WF.nil (λaa ww hf hw=>?_)))))))
   exact⟨(BD (u+1)),_,_,hf.sub (kp [7,0,1,8] O),hw,q,(i.trans C),(BG _),E⟩
  have E:=BV s E
  refine BB O (λaa ww hf hw=>?_)
  exact⟨_,_,hf.sub OG,hw,g,i,E⟩
 rintro aa ww ⟨ad,ae,hf,hw,D,Q,E⟩
 refine Ad ?_ hf hw
 clear hf hw ww aa
 rw[DX] at E
 refine AA (AG (.inl O) (AF O O (AD (kp [4] O) (Ab (λaa ww hf hw=>?_)))))
 cases E
 exact Dp hf hw O O Q ⟨O,(iq (n:=(-1)) O),D⟩
theorem JD (hs:St S L h) {a:Value}{g:(List Int)}(d:Sl S h AN.int a g) {b:Value}{i:(Int→Option Bool)}(c:Rd S h (AN.fn Tryz.prog (λx:Int=>([.int .i64 x]:List Value)) (λx:Int=>AI x) (λy:Bool=> .bool y) (λy:Bool=>True)) b i) {r:Bool}(E:Cs N g i=some r):
 CG Tryz.prog 99 #[a,b] S h (λv S' h'=>v= .bool r∧St S' (L) h'):=by
 refine BC (l:=[a,b]) 9 Tryz.func99 O Tryz.ntmps99 O λB=>?_
 rw[Cs] at E
 obtain⟨n,p,rfl,q,s⟩:=c.fn
 refine AA (AG (.inl O) (AF O O (AD (kp [0,1] O) (AA (Bn (.inl O) hs (AB O O (AB O O ?_)))))))
 obtain⟨u,j,E⟩:=bd E
 refine CM O O O Yn O (λh' o=>Jl (St.all h') (d.mono' (o.all hs.1)) (c.mono (o.all hs.1)) j) λt=>?_
 have w:=t
 refine Hr O O O (AF O O (BK (kp [4] O) λz k m=>Ab (λaa ww hf hw=>?_)))
 cases E
 exact Dp hf hw O O m ⟨O,k⟩
theorem Nm (hs:St S L h) {a:Int}(b:AI a) {r:Bool}(E:Fl N a=some r):
 CG Tryz.prog 100 #[.int .i64 a] S h (λv S' h'=>v= .bool r∧St S' (L) h'):=by
 refine BC (l:=[.int .i64 a]) 5 Tryz.func100 O Tryz.ntmps100 O λB=>?_
 rw[Fl] at E
 refine AA (AG (.inl O) (AF O O (AD (kp [0] O) (AA (AG (.inl O) (AB O O (CE O O O (AF O O (AD (kp [2] O) (Ab (λaa ww hf hw=>?_)))))))))))
 cases E
 exact Dp hf hw O O (B8.refl S h) ⟨O,hs⟩
theorem Oo (hs:St S L h) {c:Int}(m:AI c) {a:Int}(n:AI a) {d:Value}{i:(List Int)}(g:Sl S h AN.int d i) {r:(List Az)}(E:I2 N c a i=some r):
 CG Tryz.prog 87 #[.slice none 0 0,.int .i64 c,.int .i64 a,d] S h (λv S' h'=>St S' (OS An 60 v r::L) h'):=by
 refine BC (l:=[.slice none 0 0,.int .i64 c,.int .i64 a,d]) 32 Tryz.func87 O Tryz.ntmps87 O λB=>?_
 rw[I2] at E
 refine AA (AG (.inl O) (AF O O (AD (kp [0,1,2,3] O) (AA (AG (.inl O) (AB O O (AB O O (MU O JF O (AB O O (MU O JF O (Ww O O O JF O (AF O O (AD (kp [9,1,2,3] O) (AA (AA (Bn (.inl O) hs (AB O O (A0 O O O (AB O O ?_)))))))))))))))))))
 obtain⟨b2,j,E⟩:=bd E
 refine AV 4 22 (.bool b2) ?_ ?_
 ·cases c1:(decide (a<0))
  ·have j:=BV c1 j
   refine AC O O O (AB O O (AC O O O ?_))
   have Q:Rd S h (AN.fn Tryz.prog (λx:Int=>([.int .i64 x]:List Value)) (λx:Int=>AI x) (λy:Bool=> .bool y) (λy:Bool=>True)) (.func (.func 100) #[] #[]) (λx=>Fl N x):=Rd.ofFn 100 #[] Ys λS' h' s' e' L hs x y h1 h2=>(Nm hs h1 h2).mono λ_ _ _ _ p=>⟨p.1,trivial,p.2⟩
   obtain⟨y4,U,j⟩:=bd j
   refine Aw O O O aG O (λh' o=>JD (St.all h') (g.mono' (o.all hs.1)) (Q.mono (o.all hs.1)) U) (AC O O O (Bv O O (AO O O O ?_)))
   cases j
   exact AU O
  have j:=BU c1 j
  cases j
  exact Aa O O
 refine BK (kp [22,9,1,2,3] O) λh6 u V=>AW O (λW=>?_) (λW=>?_)
 ·have E:=BU W E
  refine AA (AG (.inl O) (AB O O (AF O O (AD (kp [8] O) (Ab (λaa ww hf hw=>?_))))))
  have A:=u.nil An 60
  cases E
  exact Dp hf hw O O V A
 have E:=BV W E
 refine AT (AA (Am (AJ 4 (AB O O (AB O O (AB O O (AB O O (AE ?_))))))))
 have X:=g.mono' V
 obtain⟨z,C,E⟩:=bd E
 refine Bb O O O PB O u (DB (St.all _) (X.mono (λb hb=>u.1 b hb) (λ_ _=>rfl)) C) λag ah ai af Y Z p=>?_
 have D:=p
 have s:=u.join Z D ⟨OS.flat (λ{_ _ _ _ _ _} k=>k),trivial⟩
 simp only[List.cons_append,List.nil_append] at s
 refine AJ 1 ?_
 obtain⟨w,t,rfl,aj⟩:=s.oslen mh
 refine HX (cs:=[.int .i64 c,.int .i64 a,(.slice w z.length t)]) XM O O O (AE (Dw (cs:=[.int .i64 c,.int .i64 a,(.slice w z.length t)]) Px O O O O O O O s λak al F ab=>?_))
 have G:=F.nil An 60
 obtain⟨am,H,ac,ad⟩:=G.pubs (.tail (.tail .head))
 obtain⟨I,E⟩:=Ly E
 refine Ta (r:=An) (l:=([]:List Az)) (xs:=([(⟨c,a,z⟩:Az)]:List Az)) O O Px O (mt mh) ⟨_,_,O,⟨_,O,m,n,ad⟩,O⟩ O O I O H (λ_=> .head) λan ao J ae=>?_
 have K:=J.drop (.tail .head)
 refine AJ 1 (AF O O (AE (AX (kp [8] O) (Ab (λaa ww hf hw=>?_)))))
 cases E
 have M:=V.trans (Y.trans (ab.trans (ac.trans ae)))
 exact Dp hf hw O O M K
theorem Il {d:Nat}{p0_w:Ai}{M:Value}{Q:Value}{U:Value}{V:Value}{W:Value}{Y:Value}{Z:Value}{ab:Value}{G:Value}{H:Value}{I:Value}{J:Value}{K:Value}{w:Value}{z:Value}{A:Value}{C:Value}{D:Value}{ae:Value}{ah:Value}{F:Value}{ac:Value}(hs:St S (Bx d 84 [.string p0_w.b.Name,M,.int .i64 p0_w.b.Cells,Q,U,V,W,Y,Z,ab,.int .i64 p0_w.b.Err,G,H,I,J,K,.int .i64 p0_w.s.Hour,w,z,A,C,D,ae,ah,F,ac]::OS (AN.sl AN.int) 29 w p0_w.s.Own::OS AN.int 3 z p0_w.s.Rem::OS An 60 A p0_w.s.Queue::OS A4 69 C p0_w.s.Gates::OS AN.int 3 D p0_w.s.In::OS AN.int 3 ae p0_w.s.Out::OS BT 50 ah p0_w.moves::OS AN.int 3 F p0_w.peaks::OS An 60 ac p0_w.sent::L) h) (c5:p0_w.b.Name.size≤maxLen) (c6:Sl S h AN.str M p0_w.b.Owners) (c7:AI p0_w.b.Cells) (c8:Sl S h Br Q p0_w.b.Places) (c9:Sl S h Bh U p0_w.b.Links) (da:Sl S h F6 V p0_w.b.Towns) (db:Sl S h D4 W p0_w.b.Gauges) (dc:Sl S h Fo Y p0_w.b.Roads) (dd:Sl S h Cw Z p0_w.b.Shelters) (de:Sl S h AN.int ab p0_w.b.Room) (b1:AI p0_w.b.Err) (b2:Sl S h AN.int G p0_w.in_.Rain) (b3:Sl S h Ek H p0_w.in_.Faults) (b4:Sl S h Hg I p0_w.in_.Cmds) (b5:Sl S h FJ J p0_w.in_.Takes) (b6:Sl S h F7 K p0_w.in_.Swaps) (ak:AI p0_w.s.Hour) {n:Int}(a1:AI n) {ap:Value}{c:AM}(bs:Rd S h Ao ap c) {r:(List (List Int))×(List Int)×(List Av)×(List Az)}(E:FX N p0_w n c=some r):
 CG Tryz.prog 64 #[.pointer (some ⟨d,0,none⟩),.int .i64 n,ap] S h (λv S' h'=>∃w_0_17 w_0_22 w_0_23 w_0_25:Value,v= .tuple #[]∧St S' (Bx d 84 [.string p0_w.b.Name,M,.int .i64 p0_w.b.Cells,Q,U,V,W,Y,Z,ab,.int .i64 p0_w.b.Err,G,H,I,J,K,.int .i64 p0_w.s.Hour,w_0_17,z,A,C,D,w_0_22,w_0_23,F,w_0_25]::OS (AN.sl AN.int) 29 w_0_17 r.1::OS AN.int 3 z p0_w.s.Rem::OS An 60 A p0_w.s.Queue::OS A4 69 C p0_w.s.Gates::OS AN.int 3 D p0_w.s.In::OS AN.int 3 w_0_22 r.2.1::OS BT 50 w_0_23 r.2.2.1::OS AN.int 3 F p0_w.peaks::OS An 60 w_0_25 r.2.2.2::L) h'):=by
 refine BC (l:=[.pointer (some ⟨d,0,none⟩),.int .i64 n,ap]) 89 Tryz.func64 O Tryz.ntmps64 O λB=>?_
 rw[FX] at E
 refine AA (Am (B1 O bs (λe=>by cases e) O hs λq1 S2 h3 u e5 k6=>AX (kp [5,0,1] O) (AA ?_)))
 obtain⟨i5,df,E⟩:=bd E
 obtain⟨b7,dg,E⟩:=bd E
 obtain⟨t,dh,E⟩:=bd E
 refine Ws (m:=[(5,q1),(0,.pointer (some ⟨d,0,none⟩)),(1,.int .i64 n)]) [] [] [] (λX i v hh=>match i with|0=>Pt S2 hh (AN.fnr Tryz.prog (λS h vs (x:(List Int))=>∃w0:Value,vs=[w0]∧Sl S h AN.int w0 x) (λS h v (y:((List Int)×(List Int)))=>∃w0 w1:Value,v= .tuple #[w0,w1]∧Sl S h AN.int w0 y.1∧Sl S h AN.int w1 y.2)) v c.take|1=>Rd S2 hh (AN.fnr Tryz.prog (λS h vs (x:(List Int))=>∃w0:Value,vs=[w0]∧Sl S h AN.int w0 x) (λS h v (y:((List Int)×(List Int)))=>∃w0 w1:Value,v= .tuple #[w0,w1]∧Sl S h AN.int w0 y.1∧Sl S h AN.int w1 y.2)) v c.take|2=>v= .pointer (some ⟨d,0,none⟩)|3=>v= .pointer (some ⟨d,0,none⟩)|4=>v= .pointer (some ⟨d,16,none⟩)|5=>v= .pointer (some ⟨d,17,none⟩)|6=>v=w|7=>v= .int .i64 n∧AI n|8=>EP w (n.toNat*((AN.sl AN.int)).sz+0) v|9=>Sl S2 hh AN.int v b7|10=>∃w0 w1:Value,v= .tuple #[w0,w1]∧(Sl (SX S2 h3 hh X) hh AN.int w0 t.1)∧(Sl (SX S2 h3 hh X) hh AN.int w1 t.2)|11=>∃w0 w1:Value,v= .tuple #[w0,w1]∧(Sl (SX S2 h3 hh X) hh AN.int w0 t.1)∧(Sl (SX S2 h3 hh X) hh AN.int w1 t.2)|12=>Sl (SX S2 h3 hh X) hh AN.int v t.1|13=>Sl (SX S2 h3 hh X) hh AN.int v t.2|14=>Sl (SX S2 h3 hh X) hh AN.int v t.1|15=>Sl (SX S2 h3 hh X) hh AN.int v t.2|_=>False) [[],[(0,9)],[],[(2,11)],[(3,12)],[(4,13)],[(5,14)],[],[(6,15),(7,16)],[(8,17)],[(1,10),(9,18)],[(10,19)],[(11,8)],[(11,8)],[(12,20)],[(13,21)]] [(14,6),(15,7)] mo (by kernel_rfl) [5,0,1] O (by kernel_rfl) (by kernel_rfl) (by kernel_rfl) O (kp [5,0,1] O) (λi v h1 h2 X X' o1 o2 u1 u2 hr=>?_) (by kernel_rfl) Wn ?_ ?_ ?_
 ·match i,hr with
   |0,hr=>exact(MB.mono hr (o2.ext λb hb=>Nat.lt_of_lt_of_le (u.1 b hb) o1.siz))
   |1,hr=>exact(Rd.mono hr (o2.ext λb hb=>Nat.lt_of_lt_of_le (u.1 b hb) o1.siz))
   |2,hr=>exact hr
   |3,hr=>exact hr
   |4,hr=>exact hr
   |5,hr=>exact hr
   |6,hr=>exact hr
   |7,hr=>exact hr
   |8,hr=>exact hr
   |9,hr=>exact(Sl.mono' hr (o2.ext λb hb=>Nat.lt_of_lt_of_le (u.1 b hb) o1.siz))
   |10,hr=>obtain⟨w0,w1,e,k0,k1⟩:=hr;exact⟨w0,w1,e,(Sl.mono' k0 (SX.mono u.1 o1 o2 u1 u2)),(Sl.mono' k1 (SX.mono u.1 o1 o2 u1 u2))⟩
   |11,hr=>obtain⟨w0,w1,e,k0,k1⟩:=hr;exact⟨w0,w1,e,(Sl.mono' k0 (SX.mono u.1 o1 o2 u1 u2)),(Sl.mono' k1 (SX.mono u.1 o1 o2 u1 u2))⟩
   |12,hr=>exact(Sl.mono' hr (SX.mono u.1 o1 o2 u1 u2))
   |13,hr=>exact(Sl.mono' hr (SX.mono u.1 o1 o2 u1 u2))
   |14,hr=>exact(Sl.mono' hr (SX.mono u.1 o1 o2 u1 u2))
   |15,hr=>exact(Sl.mono' hr (SX.mono u.1 o1 o2 u1 u2))
   |_+16,hr=>exact hr.elim
 ·exact trivial
 ·refine GD.cons O O O ?_ ?_
  ·intro X mq hh o hX
   have hsN:=o.st u
   refine AJ 1 ?_
   have fw:=k6.mono (o.ext u.1)
   exact Ac O fw Na VY O λi6 fx=>AE (AK (BA.refl _) fx)
  refine GD.cons O O O ?_ ?_
  ·intro X mq hh o hX
   intro fy b8
   have hsN:=o.st u
   have b8:Pt _ _ (AN.fnr Tryz.prog (λS h vs (x:(List Int))=>∃w0:Value,vs=[w0]∧Sl S h AN.int w0 x) (λS h v (y:((List Int)×(List Int)))=>∃w0 w1:Value,v= .tuple #[w0,w1]∧Sl S h AN.int w0 y.1∧Sl S h AN.int w1 y.2)) fy c.take:=b8
   exact AJ 1 (Bw A3 hsN.1 O b8 X9 (λ_=>rfl) O λi7 f0=>AE (AK (BA.refl _) f0))
  refine GD.cons O O O ?_ ?_
  ·intro X mq hh o hX
   have hsN:=o.st u
   exact AJ 1 (AB O O (AE (AK (BA.refl _) O)))
  refine GD.cons O O O ?_ ?_
  ·intro X mq hh o hX
   intro i8 f1
   have hsN:=o.st u
   cases f1
   exact AJ 1 (CI O O (AE (AK (BA.refl _) O)))
  refine GD.cons O O O ?_ ?_
  ·intro X mq hh o hX
   intro i9 f2
   have hsN:=o.st u
   cases f2
   exact AJ 1 (AL O CV O (AE (AK (BA.refl _) O)))
  refine GD.cons O O O ?_ ?_
  ·intro X mq hh o hX
   intro ja f3
   have hsN:=o.st u
   cases f3
   exact AJ 1 (AL O D3 O (AE (AK (BA.refl _) O)))
  refine GD.cons O O O ?_ ?_
  ·intro X mq hh o hX
   intro jb f4
   have hsN:=o.st u
   cases f4
   exact AJ 1 (AS A3 hsN O mh O G3 O (AE (AK (BA.refl _) O)))
  refine GD.cons O O O ?_ ?_
  ·intro X mq hh o hX
   have hsN:=o.st u
   exact AJ 1 (AB O O (AE (AK (BA.refl _) ⟨O,a1⟩)))
  refine GD.cons O O O ?_ ?_
  ·intro X mq hh o hX
   intro jc f5 jd f6
   have hsN:=o.st u
   cases f5
   obtain⟨rfl,je⟩:=f6
   exact AJ 1 (A5 hsN (mt mh) O O E8 df O λjf di=>AE (AK (BA.refl _) di))
  refine GD.cons O O O ?_ ?_
  ·intro X mq hh o hX
   intro jg f7
   have hsN:=o.st u
   refine AJ 1 ?_
   have f8:=hsN.epAt (mt mh) dg El.id f7
   exact Ah A3 (λ_ x=>x) O f8 BY O λjh f9=>AE (AK (BA.refl _) f9)
  refine GD.cons O O O ?_ ?_
  ·intro X mq hh o hX
   intro ga a5 gb a6
   have hsN:=Mv (X:=X) u o
   have a5:=Rd.mono (S':=(SX S2 h3 hh X)) a5 ⟨λb hb=>(SX.ext u.1 o hX).sub b hb,λ_ _=>rfl,Nat.le_refl _⟩
   have a5:Rd _ _ (AN.fnr Tryz.prog (λS h vs (x:(List Int))=>∃w0:Value,vs=[w0]∧Sl S h AN.int w0 x) (λS h v (y:((List Int)×(List Int)))=>∃w0 w1:Value,v= .tuple #[w0,w1]∧Sl S h AN.int w0 y.1∧Sl S h AN.int w1 y.2)) ga c.take:=a5
   have a6:=Sl.mono' (S':=(SX S2 h3 hh X)) a6 ⟨λb hb=>(SX.ext u.1 o hX).sub b hb,λ_ _=>rfl,Nat.le_refl _⟩
   have a6:Sl _ _ AN.int gb b7:=a6
   have hsF:=hsN.fz
   obtain⟨gv,gw,rfl,dj,dk⟩:=a5.fnr
   refine Cr O O O dj O (dk _ _ (λb hb=>(B8.refl (SX S2 h3 hh X) hh).sub b hb) (λb hb=>(B8.refl (SX S2 h3 hh X) hh).same b hb) _ hsF b7 _ _ ⟨_,O,a6⟩ dh) λji jj jk gc p=>?_
   obtain⟨⟨jl,jm,rfl,gd,ge⟩,dl⟩:=p
   have a7:=SX.done o hX gc dl
   exact AK a7.1 ⟨_,_,O,(Sl.mono' gd a7.2),(Sl.mono' ge a7.2)⟩
  refine GD.cons O O O ?_ ?_
  ·intro X mq hh o hX
   intro jn gf
   have hsN:=Mv (X:=X) u o
   obtain⟨gg,gh,rfl,b9,ca⟩:=gf
   have b9:Sl _ _ AN.int gg t.1:=b9
   have ca:Sl _ _ AN.int gh t.2:=ca
   exact AJ 1 (AB O O (AE (AK (BA.refl _) ⟨_,_,O,b9,ca⟩)))
  refine GD.cons O O O ?_ ?_
  ·intro X mq hh o hX
   intro jo gi
   have hsN:=Mv (X:=X) u o
   obtain⟨gj,gk,rfl,cb,dm⟩:=gi
   have cb:Sl _ _ AN.int gj t.1:=cb
   have dm:Sl _ _ AN.int gk t.2:=dm
   exact AJ 1 (CJ O O O (AE (AK (BA.refl _) cb)))
  refine GD.cons O O O ?_ ?_
  ·intro X mq hh o hX
   intro jp gl
   have hsN:=Mv (X:=X) u o
   obtain⟨gm,gn,rfl,dn,cc⟩:=gl
   have dn:Sl _ _ AN.int gm t.1:=dn
   have cc:Sl _ _ AN.int gn t.2:=cc
   exact AJ 1 (CJ O O O (AE (AK (BA.refl _) cc)))
  refine GD.cons O O O ?_ ?_
  ·intro X mq hh o hX
   intro gp cd
   have hsN:=Mv (X:=X) u o
   have cd:Sl _ _ AN.int gp t.1:=cd
   exact AJ 1 (AF O O (AE (AK (BA.refl _) cd)))
  refine GD.cons O O O ?_ ?_
  ·intro X mq hh o hX
   intro gq a8
   have hsN:=Mv (X:=X) u o
   have a8:Sl _ _ AN.int gq t.2:=a8
   exact AJ 1 (AF O O (AE (AK (BA.refl _) a8)))
  exact trivial
 intro af X103 al hX104 a9 an dp ba gr gs
 have az:=(Xx.nil u al hX104).st
 have an:Sl _ _ AN.int a9 t.1:=an
 have ba:Sl _ _ AN.int dp t.2:=ba
 refine AX (kp [7,6,5,0,1] O) (AA (Am (AJ 8 (AB O O (CI O O (AL O CV O (AL O D3 O (AS A3 az O mh O G3 O (AB O O (AB O O ?_))))))))))
 obtain⟨gx,ce,E⟩:=bd E
 refine A5 az (mt mh) O O E8 ce O λgy cf=>AE ?_
 obtain⟨dq,cg,E⟩:=bd E
 refine Ef (r:=(AN.sl AN.int)) (l:=p0_w.s.Own) (i:=n) (x:=dq) O O (MT ba) cf cg LG.id BY (λ_=>rfl) az (.tail .head) λgz bb ag=>AX (kp [6,5,0,1] O) (AA (AA (Bn (.inl O) bb (AB O O ?_))))
 have dr:=an.mono' ag
 obtain⟨g0,ch,E⟩:=bd E
 refine CM O O O Mj O (λh' o=>Ea (St.all h') (dr.mono' (o.all bb.1)) ch) λds=>?_
 have g1:=ds
 refine HW O O O (BK (kp [32,6,5,0,1] O) λam g ai=>AW O (λbc=>?_) (λbc=>?_))
 ·have E:=BU bc E
  refine Ab (λaa ww hf hw=>?_)
  cases E
  have ci:=e5.trans ((SX.ext u.1 al hX104).trans (ag.trans ai))
  exact Jn hf O hw Jm O ci ⟨_,_,_,_,O,g⟩
 have E:=BV bc E
 refine AT (AA (ST (m:=[(6,a9),(5,q1),(0,.pointer (some ⟨d,0,none⟩)),(1,.int .i64 n)]) 18 [0] (λi v hh=>match i with|0=>v= .pointer (some ⟨d,0,none⟩)|1=>v= .pointer (some ⟨d,0,none⟩)|2=>v= .pointer (some ⟨d,0,none⟩)|3=>v= .pointer (some ⟨d,23,none⟩)|4=>v=ah|5=>v= .pointer (some ⟨d,0,none⟩)|6=>v= .pointer (some ⟨d,0,none⟩)|7=>v= .pointer (some ⟨d,16,none⟩)|8=>v= .pointer (some ⟨d,16,none⟩)|9=>v= .int .i64 p0_w.s.Hour∧AI p0_w.s.Hour|10=>v= .int .i64 n∧AI n|11=>Pt (SX S2 h3 af X103) hh AN.int v c.to_|12=>v= .int .i64 c.to_∧AI c.to_|13=>Pt (SX S2 h3 af X103) hh AN.int v c.way|14=>v= .int .i64 c.way∧AI c.way|15=>Sl (SX S2 h3 af X103) hh AN.int v t.1|16=>Rd (SX S2 h3 af X103) hh BT v (⟨p0_w.s.Hour,n,c.to_,c.way,t.1⟩:Av)|17=>Sl (SN (SX S2 h3 af X103) am hh) hh BT v ([(⟨p0_w.s.Hour,n,c.to_,c.way,t.1⟩:Av)]:List Av)∧∃ad,v= .slice (some ad) 1 1|_=>False) [[],[],[(1,34)],[(2,35)],[(3,36)],[],[(5,38)],[(6,39)],[(7,40)],[(8,41)],[],[],[(11,44)],[],[(13,46)],[],[(9,42),(10,43),(12,45),(14,47),(15,48)],[(16,49)]] [(0,33),(4,37),(17,50)] mo (by kernel_rfl) [6,5,0,1] O (by kernel_rfl) (by kernel_rfl) (by kernel_rfl) (kp [6,5,0,1] O) (λi v h1 h2 o1 o2 hr=>?_) ?_ ?_ ?_))
 ·match i,hr with
   |0,hr=>exact hr
   |1,hr=>exact hr
   |2,hr=>exact hr
   |3,hr=>exact hr
   |4,hr=>exact hr
   |5,hr=>exact hr
   |6,hr=>exact hr
   |7,hr=>exact hr
   |8,hr=>exact hr
   |9,hr=>exact hr
   |10,hr=>exact hr
   |11,hr=>exact MB.mono hr (o2.ext λb hb=>Nat.lt_of_lt_of_le (g.1 b hb) o1.siz)
   |12,hr=>exact hr
   |13,hr=>exact MB.mono hr (o2.ext λb hb=>Nat.lt_of_lt_of_le (g.1 b hb) o1.siz)
   |14,hr=>exact hr
   |15,hr=>exact Sl.mono' hr (o2.ext λb hb=>Nat.lt_of_lt_of_le (g.1 b hb) o1.siz)
   |16,hr=>exact Rd.mono hr (o2.ext λb hb=>Nat.lt_of_lt_of_le (g.1 b hb) o1.siz)
   |17,hr=>exact⟨Sl.mono' hr.1 (SN.mono g.1 o1 o2),hr.2⟩
   |_+18,hr=>exact hr.elim
 ·refine PO.cons [] (by kernel_rfl) O O (by kernel_rfl) ?_ ?_
  ·intro mq hh o
   intro a hf
   exact⟨.pointer (some ⟨d,0,none⟩),Nc hf O,O⟩
  exact trivial
 ·refine Ax.cons O ?_ ?_
  ·intro mq hh o
   have hsN:=o.st g
   exact AJ 1 (AB O O (AE (AK (BA.refl _) O)))
  refine Ax.cons O ?_ ?_
  ·intro mq hh o
   have hsN:=o.st g
   exact AJ 1 (AB O O (AE (AK (BA.refl _) O)))
  refine Ax.cons O ?_ ?_
  ·intro mq hh o
   intro g2 dt
   have hsN:=o.st g
   cases dt
   exact AJ 1 (CI O O (AE (AK (BA.refl _) O)))
  refine Ax.cons O ?_ ?_
  ·intro mq hh o
   intro g3 du
   have hsN:=o.st g
   cases du
   exact AJ 1 (AL O NI O (AE (AK (BA.refl _) O)))
  refine Ax.cons O ?_ ?_
  ·intro mq hh o
   intro g4 dv
   have hsN:=o.st g
   cases dv
   exact AJ 1 (AS A3 hsN O mh O Q4 O (AE (AK (BA.refl _) O)))
  refine Ax.cons O ?_ ?_
  ·intro mq hh o
   have hsN:=o.st g
   exact AJ 1 (AB O O (AE (AK (BA.refl _) O)))
  refine Ax.cons O ?_ ?_
  ·intro mq hh o
   intro g5 dw
   have hsN:=o.st g
   cases dw
   exact AJ 1 (CI O O (AE (AK (BA.refl _) O)))
  refine Ax.cons O ?_ ?_
  ·intro mq hh o
   intro g6 dx
   have hsN:=o.st g
   cases dx
   exact AJ 1 (AL O CV O (AE (AK (BA.refl _) O)))
  refine Ax.cons O ?_ ?_
  ·intro mq hh o
   intro g7 dy
   have hsN:=o.st g
   cases dy
   exact AJ 1 (AL O ID O (AE (AK (BA.refl _) O)))
  refine Ax.cons O ?_ ?_
  ·intro mq hh o
   intro g8 dz
   have hsN:=o.st g
   cases dz
   exact AJ 1 (AS A3 hsN O mh O Ae O (AE (AK (BA.refl _) ⟨O,ak⟩)))
  refine Ax.cons O ?_ ?_
  ·intro mq hh o
   have hsN:=o.st g
   exact AJ 1 (AB O O (AE (AK (BA.refl _) ⟨O,a1⟩)))
  refine Ax.cons O ?_ ?_
  ·intro mq hh o
   have hsN:=o.st g
   refine AJ 1 ?_
   have d0:=k6.mono ((SX.ext u.1 al hX104).trans (ag.trans (ai.trans (o.ext g.1))))
   exact Ac O d0 JN O4 O λg9 d1=>AE (AK (BA.refl _) d1)
  refine Ax.cons O ?_ ?_
  ·intro mq hh o
   intro d2 be
   have hsN:=o.st g
   have be:Pt _ _ AN.int d2 c.to_:=be
   exact AJ 1 (Af A3 hsN.1 O be Ae O λd3=>AE (AK (BA.refl _) ⟨O,d3⟩))
  refine Ax.cons O ?_ ?_
  ·intro mq hh o
   have hsN:=o.st g
   refine AJ 1 ?_
   have d4:=k6.mono ((SX.ext u.1 al hX104).trans (ag.trans (ai.trans (o.ext g.1))))
   exact Ac O d4 Nt VZ O λha d5=>AE (AK (BA.refl _) d5)
  refine Ax.cons O ?_ ?_
  ·intro mq hh o
   intro d6 bf
   have hsN:=o.st g
   have bf:Pt _ _ AN.int d6 c.way:=bf
   exact AJ 1 (Af A3 hsN.1 O bf Ae O λd7=>AE (AK (BA.refl _) ⟨O,d7⟩))
  refine Ax.cons O ?_ ?_
  ·intro mq hh o
   have hsN:=o.st g
   refine AJ 1 (AB O O (AE ?_))
   have d8:=an.mono' (ag.trans (ai.trans (o.ext g.1)))
   exact AK (BA.refl _) d8
  refine Ax.cons O ?_ ?_
  ·intro mq hh o
   intro hc d9 hd ea he eb hg ec ed a2
   have hsN:=o.st g
   obtain⟨rfl,ee⟩:=d9
   obtain⟨rfl,ef⟩:=ea
   obtain⟨rfl,eg⟩:=eb
   obtain⟨rfl,eh⟩:=ec
   have a2:Sl _ _ AN.int ed t.1:=a2
   refine AJ 1 ?_
   obtain⟨cj,bt,rfl,hi⟩:=(a2).len
   exact HX (cs:=[.int .i64 p0_w.s.Hour,.int .i64 n,.int .i64 c.to_,.int .i64 c.way,(.slice cj t.1.length bt)]) XN O O O (AE (AK (BA.refl _) (BT.mk (x:=(⟨p0_w.s.Hour,n,c.to_,c.way,t.1⟩:Av)) ee ef eg eh a2)))
  refine Ax.cons O ?_ ?_
  ·intro mq hh o
   intro ei ar
   have hsN:=SN.st g o
   have ar:=Rd.mono (S':=(SN (SX S2 h3 af X103) am hh)) ar ⟨λb hb=> .inl hb,λ_ _=>rfl,Nat.le_refl _⟩
   have ar:Rd _ _ BT ei (⟨p0_w.s.Hour,n,c.to_,c.way,t.1⟩:Av):=ar
   have hsF:=hsN.fz
   obtain⟨hj,rfl,ej,ek,el,em,bv⟩:=BT.ex ar
   obtain⟨ck,bu,rfl,hk⟩:=(bv).len
   refine Dw (cs:=[.int .i64 ((⟨p0_w.s.Hour,n,c.to_,c.way,t.1⟩:Av).Hour),.int .i64 ((⟨p0_w.s.Hour,n,c.to_,c.way,t.1⟩:Av).From),.int .i64 ((⟨p0_w.s.Hour,n,c.to_,c.way,t.1⟩:Av).To),.int .i64 ((⟨p0_w.s.Hour,n,c.to_,c.way,t.1⟩:Av).Way),(.slice ck ((⟨p0_w.s.Hour,n,c.to_,c.way,t.1⟩:Av).Part).length bu)]) TN O O O O O O O hsF λhl hm cl bw=>?_
   have en:=bv.mono' bw
   have cm:=cl.bxos (r:=BT) (l:=([(⟨p0_w.s.Hour,n,c.to_,c.way,t.1⟩:Av)]:List Av)) .head ⟨_,_,O,⟨_,O,ej,ek,el,em,en⟩,O⟩ (by simp [maxLen])
   obtain⟨hn,cn,eo,ep⟩:=cm.pubs .head
   have bg:=Fz.done o (bw.trans eo) cn
   exact AK bg.1 ⟨Sl.mono' ep bg.2,_,O⟩
  exact trivial
 intro au ao ho eq hp er hq bh
 have co:=SN.st g ao
 cases eq
 cases er
 obtain⟨bh,gt,rfl⟩:=bh
 obtain⟨cp,E⟩:=Ly E
 refine I8 (r:=BT) (l:=p0_w.moves) (xs:=([(⟨p0_w.s.Hour,n,c.to_,c.way,t.1⟩:Av)]:List Av)) O O TN O (Sl.src bh) O cp O co (λ_=>(.tail (.tail (.tail (.tail (.tail (.tail (.tail .head)))))))) λht hu bi av=>AJ 2 (CI O O (AL O NI O (AE ?_)))
 obtain⟨aq,aj,rfl,hv⟩:=bi.oslen (mt (mt (mt (mt (mt (mt (mt mh)))))))
 refine HY (vs:=[(.slice aq (p0_w.moves++([(⟨p0_w.s.Hour,n,c.to_,c.way,t.1⟩:Av)]:List Av)).length aj)]) (cs':=[.string p0_w.b.Name,M,.int .i64 p0_w.b.Cells,Q,U,V,W,Y,Z,ab,.int .i64 p0_w.b.Err,G,H,I,J,K,.int .i64 p0_w.s.Hour,w,z,A,C,D,ae,(.slice aq (p0_w.moves++([(⟨p0_w.s.Hour,n,c.to_,c.way,t.1⟩:Av)]:List Av)).length aj),F,ac]) O O O O Q4 O bi .head O O λbx j aw=>AX (kp [6,5,0] O) (AA (AA (AG (.inl O) ?_)))
 have cq:=(SX.ext u.1 al hX104).trans (ag.trans (ai.trans ((SN.ext g.1 ao).trans (av.trans aw))))
 have bj:=k6.mono cq
 refine Ac O bj JN O4 O λhx es=>Af A3 j.1 O es Ae O λhy=>Bd O O O (AD (kp [56,6,5,0] O) (AW O (λbk=>?_) (λbk=>?_)))
 ·have E:=BU bk E
  refine AA (Am (AJ 7 (AB O O (AB O O (CI O O (AL O CV O (AL O I0 O (AS A3 j O mh O BY O (AB O O (AE ?_))))))))))
  have cr:=ag.trans (ai.trans ((SN.ext g.1 ao).trans (av.trans aw)))
  have et:=an.mono' cr
  obtain⟨bz,ct,E⟩:=bd E
  refine Bb O O O Vl O j (K5 (St.all _) (j.oslAll (mt (mt (mt (mt (mt (mt mh))))))) (et.mono (λb hb=>j.1 b hb) (λ_ _=>rfl)) ct) λhz h0 h4 gu eu ev p=>?_
  have cu:=p
  have a0:=j.join ev cu ⟨OS.flat (λ{_ _ _ _ _ _} k=>k),trivial⟩
  simp only[List.cons_append,List.nil_append] at a0
  refine AJ 3 (CI O O (AL O CV O (AL O I0 O (AE ?_))))
  obtain⟨bl,a3,rfl,h5⟩:=a0.oslen mh
  refine HY (vs:=[(.slice bl bz.length a3)]) (cs':=[.string p0_w.b.Name,M,.int .i64 p0_w.b.Cells,Q,U,V,W,Y,Z,ab,.int .i64 p0_w.b.Err,G,H,I,J,K,.int .i64 p0_w.s.Hour,w,z,A,C,D,(.slice bl bz.length a3),(.slice aq (p0_w.moves++([(⟨p0_w.s.Hour,n,c.to_,c.way,t.1⟩:Av)]:List Av)).length aj),F,ac]) O O O O BY O a0 (.tail .head) O O λh6 cv ew=>AX OG (Ab (λaa ww hf hw=>?_))
  have cw:=cv.sel [1,1,1,1,1,1,0,1,1,1] 1 O
  cases E
  have cx:=e5.trans ((SX.ext u.1 al hX104).trans (ag.trans (ai.trans ((SN.ext g.1 ao).trans (av.trans (aw.trans (eu.trans ew)))))))
  exact Jn hf O hw Jm O cx ⟨_,_,_,_,O,cw⟩
 have E:=BV bk E
 refine AT ?_
 obtain⟨ax,cy,E⟩:=bd E
 refine ST (m:=[(6,a9),(5,q1),(0,.pointer (some ⟨d,0,none⟩))]) 18 [0] (λi v hh=>match i with|0=>v= .pointer (some ⟨d,0,none⟩)|1=>v= .pointer (some ⟨d,0,none⟩)|2=>v= .pointer (some ⟨d,0,none⟩)|3=>v= .pointer (some ⟨d,25,none⟩)|4=>v=ac|5=>v= .pointer (some ⟨d,0,none⟩)|6=>v= .pointer (some ⟨d,0,none⟩)|7=>v= .pointer (some ⟨d,16,none⟩)|8=>v= .pointer (some ⟨d,16,none⟩)|9=>v= .int .i64 p0_w.s.Hour∧AI p0_w.s.Hour|10=>v= .int .i64 (BD (p0_w.s.Hour+1))∧AI (BD (p0_w.s.Hour+1))|11=>Pt (SN (SX S2 h3 af X103) am au) hh AN.int v c.delay|12=>v= .int .i64 c.delay∧AI c.delay|13=>v= .int .i64 (BD ((BD (p0_w.s.Hour+1))+c.delay))∧AI (BD ((BD (p0_w.s.Hour+1))+c.delay))|14=>Pt (SN (SX S2 h3 af X103) am au) hh AN.int v c.to_|15=>v= .int .i64 c.to_∧AI c.to_|16=>Sl (SN (SX S2 h3 af X103) am au) hh AN.int v t.1|17=>Sl (SN (SN (SX S2 h3 af X103) am au) bx hh) hh An v ax|_=>False) [[],[],[(1,69)],[(2,70)],[(3,71)],[],[(5,73)],[(6,74)],[(7,75)],[(8,76)],[(9,77)],[],[(11,79)],[(10,78),(12,80)],[],[(14,82)],[],[(13,81),(15,83),(16,84)]] [(0,68),(4,72),(17,85)] mo (by kernel_rfl) [6,5,0] O (by kernel_rfl) (by kernel_rfl) (by kernel_rfl) (kp [6,5,0] O) (λi v h1 h2 o1 o2 hr=>?_) ?_ ?_ ?_
 ·match i,hr with
   |0,hr=>exact hr
   |1,hr=>exact hr
   |2,hr=>exact hr
   |3,hr=>exact hr
   |4,hr=>exact hr
   |5,hr=>exact hr
   |6,hr=>exact hr
   |7,hr=>exact hr
   |8,hr=>exact hr
   |9,hr=>exact hr
   |10,hr=>exact hr
   |11,hr=>exact MB.mono hr (o2.ext λb hb=>Nat.lt_of_lt_of_le (j.1 b hb) o1.siz)
   |12,hr=>exact hr
   |13,hr=>exact hr
   |14,hr=>exact MB.mono hr (o2.ext λb hb=>Nat.lt_of_lt_of_le (j.1 b hb) o1.siz)
   |15,hr=>exact hr
   |16,hr=>exact Sl.mono' hr (o2.ext λb hb=>Nat.lt_of_lt_of_le (j.1 b hb) o1.siz)
   |17,hr=>exact Sl.mono' hr (SN.mono j.1 o1 o2)
   |_+18,hr=>exact hr.elim
 ·refine PO.cons [] (by kernel_rfl) O O (by kernel_rfl) ?_ ?_
  ·intro mq hh o
   intro a hf
   exact⟨.pointer (some ⟨d,0,none⟩),Nc hf O,O⟩
  exact trivial
 ·refine Ax.cons O ?_ ?_
  ·intro mq hh o
   have hsN:=o.st j
   exact AJ 1 (AB O O (AE (AK (BA.refl _) O)))
  refine Ax.cons O ?_ ?_
  ·intro mq hh o
   have hsN:=o.st j
   exact AJ 1 (AB O O (AE (AK (BA.refl _) O)))
  refine Ax.cons O ?_ ?_
  ·intro mq hh o
   intro h7 ey
   have hsN:=o.st j
   cases ey
   exact AJ 1 (CI O O (AE (AK (BA.refl _) O)))
  refine Ax.cons O ?_ ?_
  ·intro mq hh o
   intro h8 ez
   have hsN:=o.st j
   cases ez
   exact AJ 1 (AL O QV O (AE (AK (BA.refl _) O)))
  refine Ax.cons O ?_ ?_
  ·intro mq hh o
   intro h9 e0
   have hsN:=o.st j
   cases e0
   exact AJ 1 (AS A3 hsN O mh O Kk O (AE (AK (BA.refl _) O)))
  refine Ax.cons O ?_ ?_
  ·intro mq hh o
   have hsN:=o.st j
   exact AJ 1 (AB O O (AE (AK (BA.refl _) O)))
  refine Ax.cons O ?_ ?_
  ·intro mq hh o
   intro ia e1
   have hsN:=o.st j
   cases e1
   exact AJ 1 (CI O O (AE (AK (BA.refl _) O)))
  refine Ax.cons O ?_ ?_
  ·intro mq hh o
   intro ib e2
   have hsN:=o.st j
   cases e2
   exact AJ 1 (AL O CV O (AE (AK (BA.refl _) O)))
  refine Ax.cons O ?_ ?_
  ·intro mq hh o
   intro ic e3
   have hsN:=o.st j
   cases e3
   exact AJ 1 (AL O ID O (AE (AK (BA.refl _) O)))
  refine Ax.cons O ?_ ?_
  ·intro mq hh o
   intro ie e4
   have hsN:=o.st j
   cases e4
   exact AJ 1 (AS A3 hsN O mh O Ae O (AE (AK (BA.refl _) ⟨O,ak⟩)))
  refine Ax.cons O ?_ ?_
  ·intro mq hh o
   intro ig e6
   have hsN:=o.st j
   obtain⟨rfl,ih⟩:=e6
   exact AJ 1 (Ap O O O (AE (AK (BA.refl _) ⟨O,(BG _)⟩)))
  refine Ax.cons O ?_ ?_
  ·intro mq hh o
   have hsN:=o.st j
   refine AJ 1 ?_
   have e7:=bj.mono (o.ext j.1)
   exact Ac O e7 Mx Va O λii e8=>AE (AK (BA.refl _) e8)
  refine Ax.cons O ?_ ?_
  ·intro mq hh o
   intro e9 bm
   have hsN:=o.st j
   have bm:Pt _ _ AN.int e9 c.delay:=bm
   exact AJ 1 (Af A3 hsN.1 O bm Ae O λfb=>AE (AK (BA.refl _) ⟨O,fb⟩))
  refine Ax.cons O ?_ ?_
  ·intro mq hh o
   intro ij fc ik fd
   have hsN:=o.st j
   obtain⟨rfl,il⟩:=fc
   obtain⟨rfl,im⟩:=fd
   exact AJ 1 (Ap O O O (AE (AK (BA.refl _) ⟨O,(BG _)⟩)))
  refine Ax.cons O ?_ ?_
  ·intro mq hh o
   have hsN:=o.st j
   refine AJ 1 ?_
   have fe:=bj.mono (o.ext j.1)
   exact Ac O fe JN O4 O λio ff=>AE (AK (BA.refl _) ff)
  refine Ax.cons O ?_ ?_
  ·intro mq hh o
   intro fg bn
   have hsN:=o.st j
   have bn:Pt _ _ AN.int fg c.to_:=bn
   exact AJ 1 (Af A3 hsN.1 O bn Ae O λfh=>AE (AK (BA.refl _) ⟨O,fh⟩))
  refine Ax.cons O ?_ ?_
  ·intro mq hh o
   have hsN:=o.st j
   refine AJ 1 (AB O O (AE ?_))
   have fi:=an.mono' (ag.trans (ai.trans ((SN.ext g.1 ao).trans (av.trans (aw.trans (o.ext j.1))))))
   exact AK (BA.refl _) fi
  refine Ax.cons O ?_ ?_
  ·intro mq hh o
   intro ip fj ir fk fl ay
   have hsN:=SN.st j o
   obtain⟨rfl,fm⟩:=fj
   obtain⟨rfl,fn⟩:=fk
   have ay:=Sl.mono' (S':=(SN (SN (SX S2 h3 af X103) am au) bx hh)) ay ⟨λb hb=> .inl hb,λ_ _=>rfl,Nat.le_refl _⟩
   have ay:Sl _ _ AN.int fl t.1:=ay
   have hsF:=hsN.fz
   refine Cr O O O aK O (Oo hsF fm fn ay cy) λit iu iv fo p=>?_
   have cz:=p
   obtain⟨iw,c0,fp,fq⟩:=cz.pubs .head
   have bo:=Fz.done o (fo.trans fp) c0
   exact AK bo.1 (Sl.mono' fq bo.2)
  exact trivial
 intro iy b0 iz fr i0 fs ft bp
 have c1:=SN.st j b0
 cases fr
 cases fs
 have bp:Sl _ _ An ft ax:=bp
 obtain⟨c2,E⟩:=Ly E
 refine I8 (r:=An) (l:=p0_w.sent) (xs:=ax) O O Px O (Sl.src bp) O c2 O c1 (λ_=>(.tail (.tail (.tail (.tail (.tail (.tail (.tail (.tail (.tail .head)))))))))) λi1 i2 bq fu=>AJ 2 (CI O O (AL O QV O (AE ?_)))
 obtain⟨br,a4,rfl,i3⟩:=bq.oslen (mt (mt (mt (mt (mt (mt (mt (mt (mt mh)))))))))
 refine HY (vs:=[(.slice br (p0_w.sent++ax).length a4)]) (cs':=[.string p0_w.b.Name,M,.int .i64 p0_w.b.Cells,Q,U,V,W,Y,Z,ab,.int .i64 p0_w.b.Err,G,H,I,J,K,.int .i64 p0_w.s.Hour,w,z,A,C,D,ae,(.slice aq (p0_w.moves++([(⟨p0_w.s.Hour,n,c.to_,c.way,t.1⟩:Av)]:List Av)).length aj),F,(.slice br (p0_w.sent++ax).length a4)]) O O O O Kk O bq .head O O λi4 c3 fv=>AX OG (WF.nil (λaa ww hf hw=>?_))
 cases E
 have c4:=e5.trans ((SX.ext u.1 al hX104).trans (ag.trans (ai.trans ((SN.ext g.1 ao).trans (av.trans (aw.trans ((SN.ext j.1 b0).trans (fu.trans fv))))))))
 exact Jn hf O hw Jm O c4 ⟨_,_,_,_,O,c3⟩
end Go.Proofs.YtblcgjadhemlbaaGreat
