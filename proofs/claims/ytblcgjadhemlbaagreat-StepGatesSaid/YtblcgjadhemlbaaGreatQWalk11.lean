import Derived.Test.YtblcgjadhemlbaaGreatQWalk10
namespace Go.Proofs.YtblcgjadhemlbaaGreat
open Go.RowKit
set_option linter.unusedVariables false
set_option linter.unusedSimpArgs false
set_option maxRecDepth 10000
set_option maxHeartbeats 2000000
variable {N:Nat}{S:Nat→Prop}{L:List HP}{h:Aq}
theorem PU (hs:St S L h) {g:Value}{d:(List Int)}(c:Sl S h AN.int g d) {j:Int}(u:AI j) {r:(List Int)×(List Int)}(E:Jd N d j=some r):
 CG Tryz.prog 90 #[g,.int .i64 j] S h (λv S' h'=>∃G H:Value,v= .tuple #[G,H]∧St S' (OS AN.int 3 G r.1::OS AN.int 3 H r.2::L) h'):=by
 refine BC (l:=[g,.int .i64 j]) 39 Tryz.func90 O Tryz.ntmps90 O λB=>?_
 rw[Jd] at E
 refine AA (AG (.inl O) (AF O O (AF O O (AD (kp [0,1] O) (AA (Am (AJ 2 (AB O O (Ag O c BP O λb1=>AE ?_)))))))))
 obtain⟨ak,E⟩:=Ly E
 refine Iq (r:=AN.int) (zx:=0) E4 O ⟨O,by unfold AI;omega⟩ O O ak O O hs λv3 h4 I J=>AJ 1 (AF O O (AE (AX (kp [4,0,1] O) (AA (AA (Bn (.inl O) I (AB O O (CE O O O (AB O O (AV 4 17 (.bool ((decide (0<j))&&(decide ((↑d.length:Int)≤64)))) ?_ ?_))))))))))
 ·cases c7:(decide (0<j))
  ·exact Aa O O
  refine AC O O O (AB O O (AC O O O ?_))
  have k8:=c.mono' J
  exact Ag O k8 BP O λb9=>AC O O O (HW O O O (AO O O O (AU O)))
 refine AB O O ?_
 obtain⟨al,i,E⟩:=bd E
 refine AV 3 21 (.bool al) ?_ ?_
 ·cases K:((decide (0<j))&&(decide ((↑d.length:Int)≤64)))
  ·have i:=BV K i
   cases i
   exact Aa O O
  have i:=BU K i
  refine AC O O O (AB O O (AC O O O ?_))
  have am:=c.mono' J
  obtain⟨a3,M,i⟩:=bd i
  refine Aw O O O Xh O (λh' o=>Lr (St.all h') (am.mono' (o.all I.1)) M) (AO O O O ?_)
  cases i
  exact AU O
 refine BK (kp [21,4,0,1] O) λQ s A=>GW (λa w=>∃(C:List Int),IV B S Q (39,[]) a w [(4,v3),(0,g)] (OS AN.int 3 v3 C::L) λ_ _=>D5 N d C=some r) ?_ ?_
 ·refine AW O (λD=>?_) (λD=>?_)
  ·have E:=BU D E
   refine AA (Am (AJ 2 (AB O O (AB O O (AE ?_)))))
   have an:=c.mono' (J.trans A)
   obtain⟨a4,U,E⟩:=bd E
   refine Bb O O O Mj O s (Ea (St.all _) (an.mono (λb hb=>s.1 b hb) (λ_ _=>rfl)) U) λa5 a6 a7 t V a8 p=>?_
   obtain⟨rfl,ao,a0⟩:=p
   refine AJ 2 (Qs O O O (AB O O (AE ?_)))
   have W:=J.trans (A.trans V)
   have ap:=c.mono' W
   obtain⟨X,Y,E⟩:=bd E
   refine Bb O O O Yr O t (OK (St.all _) (Ks u ao) (ap.mono (λb hb=>t.1 b hb) (λ_ _=>rfl)) Y) λa9 ba Z a1 aq ar p=>?_
   obtain⟨bb,rfl,ab⟩:=p
   have m:=t.join ar ab ⟨OS.flat (λ{_ _ _ _ _ _} k=>k),trivial⟩
   simp only[List.cons_append,List.nil_append] at m
   refine AJ 5 (AB O O (CJ O O O (CJ O O O (AF O O (AF O O (AE (AX (kp [7,6,4,0] O) (AA (AG (.inl O) (AB O O (AD (kp [31,6,4,0] O) (GW (λa w=>∃(x:List Int),IV B S Z (39,[]) a w [(4,v3),(0,g)] (OS AN.int 3 v3 x::L) λ_ _=>GT N (D5 N d) x=some r) ?_ ?_))))))))))))
   ·refine AW O (λF=>?_) (λF=>?_)
    ·have E:=BU F E
     refine Am (AJ 2 (AB O O (AB O O (AE (Qv (r:=AN.int) (l:=(List.replicate ((↑d.length:Int):Int).toNat (0:Int))) (xs:=X.1) O O BP (St.src m mh) O m (.tail .head) λbc ac au=>AX (kp [4,0] O) (WF.nil (λaa ww hf hw=>?_)))))))
     have ad:=ac.sel [1] 1 O
     exact⟨(Lw (List.replicate ((↑d.length:Int):Int).toNat (0:Int)) X.1),_,_,hf.sub (kp [4,0] O),hw,ad,au,E⟩
    have E:=BV F E
    refine AT (WF.nil (λaa ww hf hw=>?_))
    have ae:=m.sel [1] 1 O
    exact⟨(List.replicate ((↑d.length:Int):Int).toNat (0:Int)),_,_,hf.sub (kp [4,0] O),hw,ae,(B8.refl S Z),E⟩
   rintro aa ww ⟨x,be,bf,hf,hw,af,av,E⟩
   refine Ad ?_ hf hw
   clear hf hw ww aa
   rw[GT] at E
   refine WF.nil (λaa ww hf hw=>?_)
   have ag:=V.trans (aq.trans av)
   exact⟨x,_,_,hf.sub (kp [4,0] O),hw,af,ag,E⟩
  have E:=BV D E
  refine AT (WF.nil (λaa ww hf hw=>?_))
  exact⟨(List.replicate ((↑d.length:Int):Int).toNat (0:Int)),_,_,hf.sub (kp [4,0] O),hw,s,(B8.refl S Q),E⟩
 rintro aa ww ⟨C,bg,bh,hf,hw,n,aw,E⟩
 refine Ad ?_ hf hw
 clear hf hw ww aa
 rw[D5] at E
 refine AA (Am (AJ 3 (AB O O (AB O O (AB O O (AE ?_))))))
 have y:=J.trans (A.trans aw)
 have ax:=c.mono' y
 obtain⟨bi,ah,E⟩:=bd E
 refine Bb O O O Xd O n (Kq (St.all _) (ax.mono (λb hb=>n.1 b hb) (λ_ _=>rfl)) (n.oslAll mh) ah) λbj bk bl a2 ay az p=>?_
 have ai:=p
 have z:=n.join az ai ⟨OS.flat (λ{_ _ _ _ _ _} k=>k),trivial⟩
 simp only[List.cons_append,List.nil_append] at z
 refine AJ 2 (AF O O (AF O O (AE (AX (kp [5,4] O) (Ab (λaa ww hf hw=>?_))))))
 have aj:=z.sel [1,0] 0 O
 cases E
 exact Jn hf O hw (Hn (qQ hf (v:=_) O) (Hn (qQ hf (v:=_) O) Jm)) O (y.trans ay) ⟨_,_,O,aj⟩
theorem G8 (hs:St S L h) {a:Value}{c:(List Int)}(d:Sl S h AN.int a c) {g:Value}{c1_:Int}(j:Pt S h AN.int g c1_) {r:(List Int)×(List Int)}(E:AY N c1_ c=some r):
 CG Tryz.prog 89 #[a,g] S h (λv S' h'=>∃m n:Value,v= .tuple #[m,n]∧St S' (OS AN.int 3 m r.1::OS AN.int 3 n r.2::L) h'):=by
 refine BC (l:=[a,g]) 10 Tryz.func89 O Tryz.ntmps89 O λB=>?_
 rw[AY] at E
 refine AA (AG (.inl O) (AF O O (AF O O (AD (kp [0,1] O) (AA (Am (AJ 2 (AB O O (Af A3 hs.1 O j Ae O λu=>AE ?_)))))))))
 obtain⟨y,s,E⟩:=bd E
 refine Bb O O O aJ O hs (PU (St.all _) (d.mono (λb hb=>hs.1 b hb) (λ_ _=>rfl)) u s) λz A C w x t p=>?_
 obtain⟨D,F,rfl,o⟩:=p
 have i:=hs.join t o ⟨OS.flat (λ{_ _ _ _ _ _} k=>k),⟨OS.flat (λ{_ _ _ _ _ _} k=>k),trivial⟩⟩
 simp only[List.cons_append,List.nil_append] at i
 refine AJ 4 (CJ O O O (CJ O O O (AF O O (AF O O (AE (AX (kp [4,3] O) (Ab (λaa ww hf hw=>?_))))))))
 cases E
 exact Jn hf O hw (Hn (qQ hf (v:=_) O) (Hn (qQ hf (v:=_) O) Jm)) O x ⟨_,_,O,i⟩
theorem Mh (hs:St S L h) {c:Int}(i:AI c) {a:Int}(d:AI a) {b:Int}(g:AI b) {r:Int}(E:It N c a b=some r):
 CG Tryz.prog 98 #[.int .i64 c,.int .i64 a,.int .i64 b] S h (λv S' h'=>v= .int .i64 r∧AI r∧St S' (L) h'):=by
 refine BC (l:=[.int .i64 c,.int .i64 a,.int .i64 b]) 21 Tryz.func98 O Tryz.ntmps98 O λB=>?_
 rw[It] at E
 refine AA (AG (.inl O) (AF O O (AD (kp [0,1,2] O) (AA (Bn (.inl O) hs (AB O O (AB O O (AB O O ?_))))))))
 obtain⟨j,m,E⟩:=bd E
 refine Hh (v:= .tuple #[.int .i64 j.1,.int .i64 j.2.1,.bool j.2.2]) (Ψ:=AI j.1∧AI j.2.1) O O O Rn O (λh' o=>(Hf (St.all h') i d g m).mono λ_ _ _ _ p=>⟨p.1,⟨p.2.1,p.2.2.1⟩⟩) λt=>?_
 obtain⟨u,w⟩:=t
 refine AB O O (CJ O O O (CJ O O O (CJ O O O (AF O O (AF O O (AF O O (BK (kp [9,7] O) λx k s=>AA (AA (AG (.inl O) (AB O O (Bv O O (AD (kp [19,7] O) (AW O (λq=>?_) (λq=>?_))))))))))))))
 ·have E:=BU q E
  refine AA (AG (.inl O) (AF O O (AD (kp [6] O) (Ab (λaa ww hf hw=>?_)))))
  cases E
  exact Dp hf hw O O s ⟨O,(iq (n:=0) O),k⟩
 have E:=BV q E
 refine AT (AA (AG (.inl O) (AB O O (AF O O (AD (kp [6] O) (Ab (λaa ww hf hw=>?_)))))))
 cases E
 exact Dp hf hw O O s ⟨O,u,k⟩
theorem M7 (hs:St S L h) {b:Value}{k:Au}(j:Rd S h Bh b k) {a:Int}(d:AI a) {c:Int}(i:AI c) {r:Int}(E:JK N k a c=some r):
 CG Tryz.prog 86 #[b,.int .i64 a,.int .i64 c] S h (λv S' h'=>v= .int .i64 r∧AI r∧St S' (L) h'):=by
 refine BC (l:=[b,.int .i64 a,.int .i64 c]) 23 Tryz.func86 O Tryz.ntmps86 O λB=>?_
 rw[JK] at E
 refine AA (Am (B1 O j (λe=>by cases e) O hs λq1 S2 h3 g J p=>AJ 1 (AF O O (AE (AX (kp [3,1,2] O) (AA (AA (AG (.inl O) (Ac O p Au.f_Kind Fs O λq7 K=>Af A3 g.1 O K Ae O λr9=>CH O O O (AD (kp [9,3,1,2] O) (AW O (λm=>?_) (λm=>?_))))))))))))
 ·have E:=BU m E
  refine AA (AG (.inl O) (AF O O (AD (kp [6] O) (Ab (λaa ww hf hw=>?_)))))
  cases E
  exact Dp hf hw O O J ⟨O,(iq (n:=0) O),g⟩
 have E:=BV m E
 refine AT (AA (Bn (.inr ⟨mo,by kernel_rfl⟩) g (AB O O (Ac O p Au.f_Num H2 O λM w=>Af BZ g.1 O w Ae O λx=>Ac O p Au.f_Den Iy O λQ y=>Af BZ g.1 O y Ae O λz=>?_))))
 obtain⟨U,s,E⟩:=bd E
 refine CM O O O Xc O (λh' o=>Mh (St.all h') d x z s) λA=>?_
 have V:=A
 refine AB O O (Ac O p Hl KD O λW C=>Af BZ g.1 O C Ae O λD=>Ac O p Gm Jb O λX F=>Af BZ g.1 O F Ae O λG=>?_)
 obtain⟨Y,t,E⟩:=bd E
 refine CM O O O Xc O (λh' o=>Mh (St.all h') i D G t) λH=>?_
 have Z:=H
 refine Dg O O O (AF O O (BK (kp [6] O) λab u I=>Ab (λaa ww hf hw=>?_)))
 cases E
 exact Dp hf hw O O (J.trans I) ⟨O,(BG _),u⟩
theorem MZ {j:Nat}{p0_w:Ai}{X:Value}{Y:Value}{I:Value}{Z:Value}{ab:Value}{ac:Value}{ae:Value}{af:Value}{K:Value}{M:Value}{Q:Value}{U:Value}{V:Value}{z:Value}{A:Value}{C:Value}{k:Value}{D:Value}{F:Value}{G:Value}{g:Value}{H:Value}(hs:St S (Bx j 84 [.string p0_w.b.Name,X,.int .i64 p0_w.b.Cells,Y,I,Z,ab,ac,ae,af,.int .i64 p0_w.b.Err,K,M,Q,U,V,.int .i64 p0_w.s.Hour,z,A,C,k,D,F,G,g,H]::OS (AN.sl AN.int) 29 z p0_w.s.Own::OS AN.int 3 A p0_w.s.Rem::OS An 60 C p0_w.s.Queue::OS A4 69 k p0_w.s.Gates::OS AN.int 3 D p0_w.s.In::OS AN.int 3 F p0_w.s.Out::OS BT 50 G p0_w.moves::OS AN.int 3 g p0_w.peaks::OS An 60 H p0_w.sent::L) h) (er:p0_w.b.Name.size≤maxLen) (es:Sl S h AN.str X p0_w.b.Owners) (et:AI p0_w.b.Cells) (eu:Sl S h Br Y p0_w.b.Places) (an:Sl S h Bh I p0_w.b.Links) (ev:Sl S h F6 Z p0_w.b.Towns) (ew:Sl S h D4 ab p0_w.b.Gauges) (ey:Sl S h Fo ac p0_w.b.Roads) (ez:Sl S h Cw ae p0_w.b.Shelters) (e0:Sl S h AN.int af p0_w.b.Room) (cg:AI p0_w.b.Err) (ch:Sl S h AN.int K p0_w.in_.Rain) (ci:Sl S h Ek M p0_w.in_.Faults) (cj:Sl S h Hg Q p0_w.in_.Cmds) (ck:Sl S h FJ U p0_w.in_.Takes) (cl:Sl S h F7 V p0_w.in_.Swaps) (cm:AI p0_w.s.Hour) {J:Int}(ao:AI J) {r:(List AM)}(E:Gv N p0_w J=some r):
 CG Tryz.prog 63 #[.pointer (some ⟨j,0,none⟩),.int .i64 J] S h (λv S' h'=>St S' (OS Ao 111 v r::Bx j 84 [.string p0_w.b.Name,X,.int .i64 p0_w.b.Cells,Y,I,Z,ab,ac,ae,af,.int .i64 p0_w.b.Err,K,M,Q,U,V,.int .i64 p0_w.s.Hour,z,A,C,k,D,F,G,g,H]::OS (AN.sl AN.int) 29 z p0_w.s.Own::OS AN.int 3 A p0_w.s.Rem::OS An 60 C p0_w.s.Queue::OS A4 69 k p0_w.s.Gates::OS AN.int 3 D p0_w.s.In::OS AN.int 3 F p0_w.s.Out::OS BT 50 G p0_w.moves::OS AN.int 3 g p0_w.peaks::OS An 60 H p0_w.sent::L) h'):=by
 refine BC (l:=[.pointer (some ⟨j,0,none⟩),.int .i64 J]) 141 Tryz.func63 O Tryz.ntmps63 O λB=>?_
 rw[Gv] at E
 refine AA (AG (.inl O) (AF O O (AD (kp [0,1] O) (AA (AG (.inl O) (AF O O (AD (kp [5,0,1] O) (AA (AA (AG (.inl O) (AB O O (CI O O (AL O Fq O (AL O Ft O (AS A3 hs O mh O Ir O (Ag O an G4 O λb1=>AB O O (AD (kp [15,14,13,5,0,1] O) (Aj (λa w=>∃(v2:Value) (l3:List AM),IV B S h (141,[]) a w [(5,v2)] (OS Ao 111 v2 l3::Bx j 84 [.string p0_w.b.Name,X,.int .i64 p0_w.b.Cells,Y,I,Z,ab,ac,ae,af,.int .i64 p0_w.b.Err,K,M,Q,U,V,.int .i64 p0_w.s.Hour,z,A,C,k,D,F,G,g,H]::OS (AN.sl AN.int) 29 z p0_w.s.Own::OS AN.int 3 A p0_w.s.Rem::OS An 60 C p0_w.s.Queue::OS A4 69 k p0_w.s.Gates::OS AN.int 3 D p0_w.s.In::OS AN.int 3 F p0_w.s.Out::OS BT 50 G p0_w.moves::OS AN.int 3 g p0_w.peaks::OS An 60 H p0_w.sent::L) λ_ _=>Ce N l3=some r) ?_ ?_))))))))))))))))))
 ·refine Ay (λn1=>λa w=>∃(v8:Value) (l9:List AM) (t:Int),IV B S h (141,[]) a w [(14,.int .i64 (↑p0_w.b.Links.length:Int)),(13,I),(0,.pointer (some ⟨j,0,none⟩)),(1,.int .i64 J),(5,v8),(15,.int .i64 t)] (OS Ao 111 v8 l9::Bx j 84 [.string p0_w.b.Name,X,.int .i64 p0_w.b.Cells,Y,I,Z,ab,ac,ae,af,.int .i64 p0_w.b.Err,K,M,Q,U,V,.int .i64 p0_w.s.Hour,z,A,C,k,D,F,G,g,H]::OS (AN.sl AN.int) 29 z p0_w.s.Own::OS AN.int 3 A p0_w.s.Rem::OS An 60 C p0_w.s.Queue::OS A4 69 k p0_w.s.Gates::OS AN.int 3 D p0_w.s.In::OS AN.int 3 F p0_w.s.Out::OS BT 50 G p0_w.moves::OS AN.int 3 g p0_w.peaks::OS An 60 H p0_w.sent::L) λ_ _=>AI t∧Ba N p0_w J (Ce N) n1 l9 t=some r) N ?_ ?_ ?_
  ·intro aa ww hf hw
   have e1:=hs.nil Ao 111
   exact⟨(.slice none 0 0),([]:List AM),0,_,_,hf.sub (kp [14,13,0,1,5,15] O),hw,e1,(B8.refl S h),(iq (n:=0) O),E⟩
  ·rintro aa ww ⟨_,_,_,_,_,_,_,_,_,_,E⟩
   rw[Ba] at E;cases E
  rintro n1 aa ww ⟨v8,l9,t,am,lw,hf,hw,a4,cn,bn,E⟩
  refine Ad ?_ hf hw
  clear hf hw ww aa
  rw[Ba] at E
  refine AA (AG (.inl O) (A0 O O O (AD (kp [16,14,13,0,1,5,15] O) (AA (AW O (λco=>?_) (λco=>?_))))))
  ·have E:=BU co E
   refine AT (AA (Aj (λa w=>∃(bo:Value) (bp:List AM),IV B am lw (141,[]) a w [(14,.int .i64 (↑p0_w.b.Links.length:Int)),(13,I),(0,.pointer (some ⟨j,0,none⟩)),(1,.int .i64 J),(15,.int .i64 t),(5,bo)] (OS Ao 111 bo bp::Bx j 84 [.string p0_w.b.Name,X,.int .i64 p0_w.b.Cells,Y,I,Z,ab,ac,ae,af,.int .i64 p0_w.b.Err,K,M,Q,U,V,.int .i64 p0_w.s.Hour,z,A,C,k,D,F,G,g,H]::OS (AN.sl AN.int) 29 z p0_w.s.Own::OS AN.int 3 A p0_w.s.Rem::OS An 60 C p0_w.s.Queue::OS A4 69 k p0_w.s.Gates::OS AN.int 3 D p0_w.s.In::OS AN.int 3 F p0_w.s.Out::OS BT 50 G p0_w.moves::OS AN.int 3 g p0_w.peaks::OS An 60 H p0_w.sent::L) λ_ _=>C1 N t (Ba N p0_w J (Ce N) n1) bp=some r) ?_ ?_))
   ·refine AA (Am (AJ 3 (AB O O ?_)))
    have lx:=an.mono' cn
    obtain⟨c,e2,E⟩:=bd E
    refine A8 O O lx G4 e2 O λqm ly=>Bw A3 a4.1 O ly F8 (λe=>by cases e) O λqn lz=>AE (Cg M0 O a4 λai qo e3 a5=>AJ 1 (AF O O (AE ?_)))
    have l0:=lz.mono a5
    obtain⟨ap,aq,ar,rfl,cp,cq,a6,a2,bq,br,bs,cr,ct,cu,cv,cw,cx,cy,cz,c0,c1,a3⟩:=Bh.ex l0
    refine Ge (vs:=[.string c.Name,.int .i64 c.Kind,.int .i64 c.From,.int .i64 c.To,ap,aq,ar,.int .i64 c.Positions,.int .i64 c.Speed,.int .i64 c.Leak,.int .i64 c.Crest,.int .i64 c.Num,.int .i64 c.Den,.int .i64 c.Prime,.int .i64 c.Break,.int .i64 c.BackNum,.int .i64 c.BackDen,.int .i64 c.Delay]) (cs':=[.string c.Name,.int .i64 c.Kind,.int .i64 c.From,.int .i64 c.To,ap,aq,ar,.int .i64 c.Positions,.int .i64 c.Speed,.int .i64 c.Leak,.int .i64 c.Crest,.int .i64 c.Num,.int .i64 c.Den,.int .i64 c.Prime,.int .i64 c.Break,.int .i64 c.BackNum,.int .i64 c.BackDen,.int .i64 c.Delay]) O O O (AH O (AH O (AH O (AH O (AH bq.one (AH br.one (AH bs.one (AH O (AH O (AH O (AH O (AH O (AH O (AH O (AH O (AH O (AH O (AH O D2)))))))))))))))))) F8 O e3 .head O O λau d ak=>AX (kp [6,7,14,13,0,1,5,15] O) (A6 (AA (AG (.inl O) (AL O Id O (AS A3 d O mh O Ae O (AB O O (Bd O O O (AB O O (AV 4 29 (.bool ((decide (c.From=J))&&(decide (c.Kind≠4)))) ?_ ?_)))))))))
    ·cases qp:(decide (c.From=J))
     ·exact Aa O O
     exact AC O O O (AL O Fs O (AC O O O (AS A3 d O mh O Ae O (AC O O O (CH O O O (AO O O O (AU O)))))))
    refine AF O O (AD (kp [20,6,7,14,13,0,1,5,15] O) (AW O (λc2=>?_) (λc2=>?_)))
    ·have E:=BU c2 E
     refine AA (AG (.inl O) (AF O O (AD (kp [8,6,7,14,13,0,1,5,15] O) (AA (AA (AG (.inl O) (AL O HR O (AS A3 d O mh O Ae O (CH O O O (AD (kp [32,8,6,7,14,13,0,1,5,15] O) (GW (λa w=>∃(aw:Int),IV B am au (141,[]) a w [(6,.int .i64 t),(7,.pointer (some ⟨ai,0,none⟩)),(14,.int .i64 (↑p0_w.b.Links.length:Int)),(13,I),(0,.pointer (some ⟨j,0,none⟩)),(1,.int .i64 J),(5,v8),(15,.int .i64 t),(8,.int .i64 aw)] (Bx ai 67 [.string c.Name,.int .i64 c.Kind,.int .i64 c.From,.int .i64 c.To,ap,aq,ar,.int .i64 c.Positions,.int .i64 c.Speed,.int .i64 c.Leak,.int .i64 c.Crest,.int .i64 c.Num,.int .i64 c.Den,.int .i64 c.Prime,.int .i64 c.Break,.int .i64 c.BackNum,.int .i64 c.BackDen,.int .i64 c.Delay]::OS Ao 111 v8 l9::Bx j 84 [.string p0_w.b.Name,X,.int .i64 p0_w.b.Cells,Y,I,Z,ab,ac,ae,af,.int .i64 p0_w.b.Err,K,M,Q,U,V,.int .i64 p0_w.s.Hour,z,A,C,k,D,F,G,g,H]::OS (AN.sl AN.int) 29 z p0_w.s.Own::OS AN.int 3 A p0_w.s.Rem::OS An 60 C p0_w.s.Queue::OS A4 69 k p0_w.s.Gates::OS AN.int 3 D p0_w.s.In::OS AN.int 3 F p0_w.s.Out::OS BT 50 G p0_w.moves::OS AN.int 3 g p0_w.peaks::OS An 60 H p0_w.sent::L) λ_ _=>AI aw∧Fj N p0_w J l9 t c (C1 N t (Ba N p0_w J (Ce N) n1)) aw=some r) ?_ ?_)))))))))))
     ·refine AW O (λc3=>?_) (λc3=>?_)
      ·have E:=BU c3 E
       refine AG (.inr ⟨mo,by kernel_rfl⟩) (AB O O (CI O O (AL O JQ O (AS A3 d O (mt (mt mh)) O BY O (AL O HR O (AS A3 d O mh O Ae O ?_))))))
       obtain⟨qq,e4,E⟩:=bd E
       refine A5 d (mt (mt (mt (mt (mt (mt (mt (mt (mt (mt mh)))))))))) O O BP e4 O λqr e5=>?_
       obtain⟨l1,e6,E⟩:=bd E
       have l2:=d.epAt (mt (mt (mt (mt (mt (mt (mt (mt (mt (mt mh)))))))))) e6 El.id e5
       refine Af A3 (λ_ x=>x) O l2 Ae O λl4=>AF O O (AD (kp [8,6,7,14,13,0,1,5,15] O) (WF.nil (λaa ww hf hw=>?_)))
       exact⟨l1,_,_,hf.sub (kp [6,7,14,13,0,1,5,15,8] O),hw,d,(B8.refl am au),l4,E⟩
      have E:=BV c3 E
      refine AT (WF.nil (λaa ww hf hw=>?_))
      exact⟨0,_,_,hf.sub (kp [6,7,14,13,0,1,5,15,8] O),hw,d,(B8.refl am au),(iq (n:=0) O),E⟩
     rintro aa ww ⟨aw,a7,bt,hf,hw,u,e7,l5,E⟩
     refine Ad ?_ hf hw
     clear hf hw ww aa
     rw[Fj] at E
     obtain⟨qs,e8,E⟩:=bd E
     obtain⟨e9,fa,E⟩:=bd E
     obtain⟨qt,fb,E⟩:=bd E
     obtain⟨fc,fd,E⟩:=bd E
     obtain⟨fe,ff,E⟩:=bd E
     obtain⟨aj,fg,E⟩:=bd E
     refine Mk (m:=[(6,.int .i64 t),(7,.pointer (some ⟨ai,0,none⟩)),(14,.int .i64 (↑p0_w.b.Links.length:Int)),(13,I),(0,.pointer (some ⟨j,0,none⟩)),(1,.int .i64 J),(5,v8),(15,.int .i64 t),(8,.int .i64 aw)]) 27 (λi v hh=>match i with|0=>v=v8|1=>v= .pointer (some ⟨ai,3,none⟩)|2=>v= .int .i64 c.To∧AI c.To|3=>v= .pointer (some ⟨ai,17,none⟩)|4=>v= .int .i64 c.Delay∧AI c.Delay|5=>v= .int .i64 t∧AI t|6=>v= .agg #[.string c.Name,.int .i64 c.Kind,.int .i64 c.From,.int .i64 c.To,ap,aq,ar,.int .i64 c.Positions,.int .i64 c.Speed,.int .i64 c.Leak,.int .i64 c.Crest,.int .i64 c.Num,.int .i64 c.Den,.int .i64 c.Prime,.int .i64 c.Break,.int .i64 c.BackNum,.int .i64 c.BackDen,.int .i64 c.Delay]∧c.Name.size≤maxLen∧AI c.Kind∧AI c.From∧AI c.To∧AI c.Positions∧AI c.Speed∧AI c.Leak∧AI c.Crest∧AI c.Num∧AI c.Den∧AI c.Prime∧AI c.Break∧AI c.BackNum∧AI c.BackDen∧AI c.Delay|7=>v= .pointer (some ⟨j,0,none⟩)|8=>v= .pointer (some ⟨j,0,none⟩)|9=>v= .pointer (some ⟨j,16,none⟩)|10=>v= .pointer (some ⟨j,20,none⟩)|11=>v=k|12=>v= .int .i64 t∧AI t|13=>EP k (t.toNat*(A4).sz+0) v|14=>Rd a7 hh A4 v e9|15=>v= .pointer (some ⟨j,0,none⟩)|16=>v= .pointer (some ⟨j,0,none⟩)|17=>v= .pointer (some ⟨j,24,none⟩)|18=>v=g|19=>v= .int .i64 J∧AI J|20=>EP g (J.toNat*(AN.int).sz+0) v|21=>v= .int .i64 fc∧AI fc|22=>v= .int .i64 aw∧AI aw|23=>v= .int .i64 fe∧AI fe|24=>Rd (SN a7 bt hh) hh (AN.fnr Tryz.prog (λS h vs (x:(List Int))=>∃W:Value,vs=[W]∧Sl S h AN.int W x) (λS h v (y:((List Int)×(List Int)))=>∃W w1:Value,v= .tuple #[W,w1]∧Sl S h AN.int W y.1∧Sl S h AN.int w1 y.2)) v (λx=>AY N aj x)|25=>Rd (SN a7 bt hh) hh Ao v (⟨c.To,c.Delay,t,(λx=>AY N aj x)⟩:AM)|26=>Sl (SN a7 bt hh) hh Ao v ([(⟨c.To,c.Delay,t,(λx=>AY N aj x)⟩:AM)]:List AM)∧∃ad,v= .slice (some ad) 1 1|_=>False) [[],[],[(1,42)],[],[(3,44)],[],[],[],[(7,48)],[(8,49)],[(9,50)],[(10,51)],[],[(11,52),(12,53)],[(13,54)],[],[(15,56)],[(16,57)],[(17,58)],[],[(18,59),(19,60)],[(20,61)],[],[(6,47),(14,55),(21,62),(22,63)],[(23,64)],[(2,43),(4,45),(5,46),(24,65)],[(25,66)]] [(0,41),(26,67)] mo (by kernel_rfl) [6,7,14,13,0,1,5,15,8] O (by kernel_rfl) (by kernel_rfl) (by kernel_rfl) (kp [6,7,14,13,0,1,5,15,8] O) (λi v h1 h2 o1 o2 hr=>?_) ?_ ?_
     ·match i,hr with
       |0,hr=>exact hr
       |1,hr=>exact hr
       |2,hr=>exact hr
       |3,hr=>exact hr
       |4,hr=>exact hr
       |5,hr=>exact hr
       |6,hr=>exact hr
       |7,hr=>exact hr
       |8,hr=>exact hr
       |9,hr=>exact hr
       |10,hr=>exact hr
       |11,hr=>exact hr
       |12,hr=>exact hr
       |13,hr=>exact hr
       |14,hr=>exact Rd.mono hr (o2.ext λb hb=>Nat.lt_of_lt_of_le (u.1 b hb) o1.siz)
       |15,hr=>exact hr
       |16,hr=>exact hr
       |17,hr=>exact hr
       |18,hr=>exact hr
       |19,hr=>exact hr
       |20,hr=>exact hr
       |21,hr=>exact hr
       |22,hr=>exact hr
       |23,hr=>exact hr
       |24,hr=>exact Rd.mono hr (SN.mono u.1 o1 o2)
       |25,hr=>exact Rd.mono hr (SN.mono u.1 o1 o2)
       |26,hr=>exact⟨Sl.mono' hr.1 (SN.mono u.1 o1 o2),hr.2⟩
       |_+27,hr=>exact hr.elim
     ·refine Ax.cons O ?_ ?_
      ·intro mq hh o
       have hsN:=o.st u
       exact AJ 1 (AB O O (AE (AK (BA.refl _) O)))
      refine Ax.cons O ?_ ?_
      ·intro mq hh o
       have hsN:=o.st u
       exact AJ 1 (AL O HR O (AE (AK (BA.refl _) O)))
      refine Ax.cons O ?_ ?_
      ·intro mq hh o
       intro ms fh
       have hsN:=o.st u
       cases fh
       exact AJ 1 (AS A3 hsN O mh O Ae O (AE (AK (BA.refl _) ⟨O,a2⟩)))
      refine Ax.cons O ?_ ?_
      ·intro mq hh o
       have hsN:=o.st u
       exact AJ 1 (AL O NM O (AE (AK (BA.refl _) O)))
      refine Ax.cons O ?_ ?_
      ·intro mq hh o
       intro mu fi
       have hsN:=o.st u
       cases fi
       exact AJ 1 (AS A3 hsN O mh O Ae O (AE (AK (BA.refl _) ⟨O,a3⟩)))
      refine Ax.cons O ?_ ?_
      ·intro mq hh o
       have hsN:=o.st u
       exact AJ 1 (AB O O (AE (AK (BA.refl _) ⟨O,bn⟩)))
      refine Ax.cons O ?_ ?_
      ·intro mq hh o
       have hsN:=o.st u
       exact AJ 1 (Cj (vs:=[.string c.Name,.int .i64 c.Kind,.int .i64 c.From,.int .i64 c.To,ap,aq,ar,.int .i64 c.Positions,.int .i64 c.Speed,.int .i64 c.Leak,.int .i64 c.Crest,.int .i64 c.Num,.int .i64 c.Den,.int .i64 c.Prime,.int .i64 c.Break,.int .i64 c.BackNum,.int .i64 c.BackDen,.int .i64 c.Delay]) A3 hsN O mh O O F8 O O (AE (AK (BA.refl _) ⟨O,cp,cq,a6,a2,cr,ct,cu,cv,cw,cx,cy,cz,c0,c1,a3⟩)))
      refine Ax.cons O ?_ ?_
      ·intro mq hh o
       have hsN:=o.st u
       exact AJ 1 (AB O O (AE (AK (BA.refl _) O)))
      refine Ax.cons O ?_ ?_
      ·intro mq hh o
       intro mw fj
       have hsN:=o.st u
       cases fj
       exact AJ 1 (CI O O (AE (AK (BA.refl _) O)))
      refine Ax.cons O ?_ ?_
      ·intro mq hh o
       intro mx fk
       have hsN:=o.st u
       cases fk
       exact AJ 1 (AL O CV O (AE (AK (BA.refl _) O)))
      refine Ax.cons O ?_ ?_
      ·intro mq hh o
       intro my fl
       have hsN:=o.st u
       cases fl
       exact AJ 1 (AL O Fb O (AE (AK (BA.refl _) O)))
      refine Ax.cons O ?_ ?_
      ·intro mq hh o
       intro mz fm
       have hsN:=o.st u
       cases fm
       exact AJ 1 (AS A3 hsN O (mt (mt mh)) O IQ O (AE (AK (BA.refl _) O)))
      refine Ax.cons O ?_ ?_
      ·intro mq hh o
       have hsN:=o.st u
       exact AJ 1 (AB O O (AE (AK (BA.refl _) ⟨O,bn⟩)))
      refine Ax.cons O ?_ ?_
      ·intro mq hh o
       intro m0 fn m1 fo
       have hsN:=o.st u
       cases fn
       obtain⟨rfl,m2⟩:=fo
       exact AJ 1 (A5 hsN (mt (mt (mt (mt (mt (mt mh)))))) O O IL e8 O λm3 c4=>AE (AK (BA.refl _) c4))
      refine Ax.cons O ?_ ?_
      ·intro mq hh o
       intro m4 fp
       have hsN:=o.st u
       refine AJ 1 ?_
       have fq:=hsN.epAt (mt (mt (mt (mt (mt (mt mh)))))) fa El.id fp
       exact Bw A3 (λ_ x=>x) O fq Eo (λe=>by cases e) O λm5 fr=>AE (AK (BA.refl _) fr)
      refine Ax.cons O ?_ ?_
      ·intro mq hh o
       have hsN:=o.st u
       exact AJ 1 (AB O O (AE (AK (BA.refl _) O)))
      refine Ax.cons O ?_ ?_
      ·intro mq hh o
       intro m6 fs
       have hsN:=o.st u
       cases fs
       exact AJ 1 (CI O O (AE (AK (BA.refl _) O)))
      refine Ax.cons O ?_ ?_
      ·intro mq hh o
       intro m7 ft
       have hsN:=o.st u
       cases ft
       exact AJ 1 (AL O JQ O (AE (AK (BA.refl _) O)))
      refine Ax.cons O ?_ ?_
      ·intro mq hh o
       intro m8 fu
       have hsN:=o.st u
       cases fu
       exact AJ 1 (AS A3 hsN O (mt (mt mh)) O BY O (AE (AK (BA.refl _) O)))
      refine Ax.cons O ?_ ?_
      ·intro mq hh o
       have hsN:=o.st u
       exact AJ 1 (AB O O (AE (AK (BA.refl _) ⟨O,ao⟩)))
      refine Ax.cons O ?_ ?_
      ·intro mq hh o
       intro m9 fv na fw
       have hsN:=o.st u
       cases fv
       obtain⟨rfl,nb⟩:=fw
       exact AJ 1 (A5 hsN (mt (mt (mt (mt (mt (mt (mt (mt (mt (mt mh)))))))))) O O BP fb O λnd c5=>AE (AK (BA.refl _) c5))
      refine Ax.cons O ?_ ?_
      ·intro mq hh o
       intro ne fx
       have hsN:=o.st u
       refine AJ 1 ?_
       have fy:=hsN.epAt (mt (mt (mt (mt (mt (mt (mt (mt (mt (mt mh)))))))))) fd El.id fx
       exact Af A3 (λ_ x=>x) O fy Ae O λf0=>AE (AK (BA.refl _) ⟨O,f0⟩)
      refine Ax.cons O ?_ ?_
      ·intro mq hh o
       have hsN:=o.st u
       exact AJ 1 (AB O O (AE (AK (BA.refl _) ⟨O,l5⟩)))
      refine Ax.cons O ?_ ?_
      ·intro mq hh o
       intro nf f1 f2 av ng f3 nh f4
       have hsN:=SN.st u o
       obtain⟨rfl,f5,f6,f7,f8,f9,ga,gb,gc,gd,ge,gf,gg,gh,gi,gj⟩:=f1
       have av:=Rd.mono (S':=(SN a7 bt hh)) av ⟨λb hb=> .inl hb,λ_ _=>rfl,Nat.le_refl _⟩
       have av:Rd _ _ A4 f2 e9:=av
       obtain⟨rfl,gk⟩:=f3
       obtain⟨rfl,gl⟩:=f4
       have ax:=ak.trans (e7.trans (SN.ext u.1 o))
       have gm:=bq.mono' ax
       have gn:=br.mono' ax
       have gp:=bs.mono' ax
       refine Bb O O O aL O hsN (QT (St.all _) (Bh.mk (x:=c) f5 f6 f7 f8 (gm.mono (λb hb=>hsN.1 b hb) (λ_ _=>rfl)) (gn.mono (λb hb=>hsN.1 b hb) (λ_ _=>rfl)) (gp.mono (λb hb=>hsN.1 b hb) (λ_ _=>rfl)) f9 ga gb gc gd ge gf gg gh gi gj) (av.mono ⟨λb hb=>hsN.1 b hb,λ_ _=>rfl,Nat.le_refl _⟩) gk gl ff) λni nj nk l6 nl bu p=>?_
       obtain⟨rfl,gq,l7⟩:=p
       exact AK ⟨bu.siz,λb hb=>bu.same b hb⟩ ⟨O,gq⟩
      refine Ax.cons O ?_ ?_
      ·intro mq hh o
       intro nm gr
       have hsN:=SN.st u o
       obtain⟨rfl,gs⟩:=gr
       have hsF:=hsN.fz
       refine Cr O O O Ro O (H1 hsF gs fg) λnn gt gu gv p=>?_
       obtain⟨bv,rfl,gw,c6⟩:=p
       have c7:Rd gt gu (AN.fnr Tryz.prog (λS h vs (x:(List Int))=>∃W:Value,vs=[W]∧Sl S h AN.int W x) (λS h v (y:((List Int)×(List Int)))=>∃W w1:Value,v= .tuple #[W,w1]∧Sl S h AN.int W y.1∧Sl S h AN.int w1 y.2)) (.func (.func 89) #[] #[bv]) (λx=>AY N aj x):=Jj 89 #[bv] Rm λS' h' s' e' L hs x y vs h1 h2=>by obtain⟨W,rfl,a0⟩:=h1;exact MH (G8 hs a0 (gw.mono'' s' e') h2)
       have a8:=Fz.done o gv c6
       exact AK a8.1 (Rd.mono c7 a8.2)
      refine Ax.cons O ?_ ?_
      ·intro mq hh o
       intro no gx np gz nq g0 g1 ay
       have hsN:=SN.st u o
       obtain⟨rfl,g2⟩:=gx
       obtain⟨rfl,g3⟩:=gz
       obtain⟨rfl,g4⟩:=g0
       have ay:Rd _ _ (AN.fnr Tryz.prog (λS h vs (x:(List Int))=>∃W:Value,vs=[W]∧Sl S h AN.int W x) (λS h v (y:((List Int)×(List Int)))=>∃W w1:Value,v= .tuple #[W,w1]∧Sl S h AN.int W y.1∧Sl S h AN.int w1 y.2)) g1 (λx=>AY N aj x):=ay
       refine AJ 1 ?_
       obtain⟨c8,c9,rfl,l8,ma⟩:=ay.fnr
       exact HX (cs:=[.int .i64 c.To,.int .i64 c.Delay,.int .i64 t,(.func (.func c8) #[] c9)]) Ni O O O (AE (AK (BA.refl _) (Ao.mk (x:=(⟨c.To,c.Delay,t,(λx=>AY N aj x)⟩:AM)) g2 g3 g4 ay)))
      refine Ax.cons O ?_ ?_
      ·intro mq hh o
       intro g5 a9
       have hsN:=SN.st u o
       have a9:Rd _ _ Ao g5 (⟨c.To,c.Delay,t,(λx=>AY N aj x)⟩:AM):=a9
       have hsF:=hsN.fz
       obtain⟨g6,rfl,g7,g8,g9,ha⟩:=Ao.ex a9
       refine Dw (cs:=[.int .i64 ((⟨c.To,c.Delay,t,(λx=>AY N aj x)⟩:AM).to_),.int .i64 ((⟨c.To,c.Delay,t,(λx=>AY N aj x)⟩:AM).delay),.int .i64 ((⟨c.To,c.Delay,t,(λx=>AY N aj x)⟩:AM).way),g6]) Kg O O O O O O O hsF λnr ns da bw=>?_
       have hc:=ha.mono bw
       have db:=da.bxos (r:=Ao) (l:=([(⟨c.To,c.Delay,t,(λx=>AY N aj x)⟩:AM)]:List AM)) .head ⟨_,_,O,⟨_,O,g7,g8,g9,hc⟩,O⟩ (by simp [maxLen])
       obtain⟨nt,dc,hd,he⟩:=db.pubs .head
       have ba:=Fz.done o (bw.trans hd) dc
       exact AK ba.1 ⟨Sl.mono' he ba.2,_,O⟩
      exact trivial
     intro nu bx nv hg nw bb
     have dd:=SN.st u bx
     cases hg
     obtain⟨bb,mb,rfl⟩:=bb
     obtain⟨de,E⟩:=Ly E
     refine I8 (r:=Ao) (l:=l9) (xs:=([(⟨c.To,c.Delay,t,(λx=>AY N aj x)⟩:AM)]:List AM)) O O Kg O (Sl.src bb) O de O dd (λ_=>(.tail .head)) λhi nx df hj=>AJ 1 (AF O O (AE (AX (kp [5,14,13,0,1,15] O) (BJ (WF.nil (λaa ww hf hw=>?_))))))
     have dg:=df.sel [1,1,1,1,1,1,1,1,1,1,1] 1 O
     have dh:=a5.trans (ak.trans (e7.trans ((SN.ext u.1 bx).trans hj)))
     exact⟨hi,(l9++([(⟨c.To,c.Delay,t,(λx=>AY N aj x)⟩:AM)]:List AM)),_,_,hf.sub (kp [14,13,0,1,15,5] O),hw,dg,dh,E⟩
    have E:=BV c2 E
    refine AA (AG (.inl O) (AL O Id O (AS A3 d O mh O Ae O (AB O O (Bd O O O (AF O O (AD (kp [69,6,7,14,13,0,1,5,15] O) (AW O (λbc=>?_) (λbc=>?_)))))))))
    ·have E:=BU bc E
     obtain⟨ny,di,E⟩:=bd E
     obtain⟨bz,dj,E⟩:=bd E
     obtain⟨nz,dk,E⟩:=bd E
     obtain⟨b0,dl,E⟩:=bd E
     obtain⟨b2,dm,E⟩:=bd E
     obtain⟨ag,dn,E⟩:=bd E
     refine Mk (m:=[(6,.int .i64 t),(7,.pointer (some ⟨ai,0,none⟩)),(14,.int .i64 (↑p0_w.b.Links.length:Int)),(13,I),(0,.pointer (some ⟨j,0,none⟩)),(1,.int .i64 J),(5,v8),(15,.int .i64 t)]) 26 (λi v hh=>match i with|0=>v=v8|1=>v= .pointer (some ⟨ai,3,none⟩)|2=>v= .int .i64 c.To∧AI c.To|3=>v= .pointer (some ⟨ai,17,none⟩)|4=>v= .int .i64 c.Delay∧AI c.Delay|5=>v= .int .i64 t∧AI t|6=>v= .agg #[.string c.Name,.int .i64 c.Kind,.int .i64 c.From,.int .i64 c.To,ap,aq,ar,.int .i64 c.Positions,.int .i64 c.Speed,.int .i64 c.Leak,.int .i64 c.Crest,.int .i64 c.Num,.int .i64 c.Den,.int .i64 c.Prime,.int .i64 c.Break,.int .i64 c.BackNum,.int .i64 c.BackDen,.int .i64 c.Delay]∧c.Name.size≤maxLen∧AI c.Kind∧AI c.From∧AI c.To∧AI c.Positions∧AI c.Speed∧AI c.Leak∧AI c.Crest∧AI c.Num∧AI c.Den∧AI c.Prime∧AI c.Break∧AI c.BackNum∧AI c.BackDen∧AI c.Delay|7=>v= .pointer (some ⟨j,0,none⟩)|8=>v= .pointer (some ⟨j,0,none⟩)|9=>v= .pointer (some ⟨j,24,none⟩)|10=>v=g|11=>v= .int .i64 J∧AI J|12=>EP g (J.toNat*(AN.int).sz+0) v|13=>v= .int .i64 bz∧AI bz|14=>v= .pointer (some ⟨j,0,none⟩)|15=>v= .pointer (some ⟨j,0,none⟩)|16=>v= .pointer (some ⟨j,24,none⟩)|17=>v=g|18=>v= .pointer (some ⟨ai,3,none⟩)|19=>v= .int .i64 c.To∧AI c.To|20=>EP g (c.To.toNat*(AN.int).sz+0) v|21=>v= .int .i64 b0∧AI b0|22=>v= .int .i64 b2∧AI b2|23=>Rd (SN am au hh) hh (AN.fnr Tryz.prog (λS h vs (x:(List Int))=>∃W:Value,vs=[W]∧Sl S h AN.int W x) (λS h v (y:((List Int)×(List Int)))=>∃W w1:Value,v= .tuple #[W,w1]∧Sl S h AN.int W y.1∧Sl S h AN.int w1 y.2)) v (λx=>AY N ag x)|24=>Rd (SN am au hh) hh Ao v (⟨c.To,c.Delay,t,(λx=>AY N ag x)⟩:AM)|25=>Sl (SN am au hh) hh Ao v ([(⟨c.To,c.Delay,t,(λx=>AY N ag x)⟩:AM)]:List AM)∧∃ad,v= .slice (some ad) 1 1|_=>False) [[],[],[(1,75)],[],[(3,77)],[],[],[],[(7,81)],[(8,82)],[(9,83)],[],[(10,84),(11,85)],[(12,86)],[],[(14,88)],[(15,89)],[(16,90)],[],[(18,92)],[(17,91),(19,93)],[(20,94)],[(6,80),(13,87),(21,95)],[(22,96)],[(2,76),(4,78),(5,79),(23,97)],[(24,98)]] [(0,74),(25,99)] mo (by kernel_rfl) [6,7,14,13,0,1,5,15] O (by kernel_rfl) (by kernel_rfl) (by kernel_rfl) (kp [6,7,14,13,0,1,5,15] O) (λi v h1 h2 o1 o2 hr=>?_) ?_ ?_
     ·match i,hr with
       |0,hr=>exact hr
       |1,hr=>exact hr
       |2,hr=>exact hr
       |3,hr=>exact hr
       |4,hr=>exact hr
       |5,hr=>exact hr
       |6,hr=>exact hr
       |7,hr=>exact hr
       |8,hr=>exact hr
       |9,hr=>exact hr
       |10,hr=>exact hr
       |11,hr=>exact hr
       |12,hr=>exact hr
       |13,hr=>exact hr
       |14,hr=>exact hr
       |15,hr=>exact hr
       |16,hr=>exact hr
       |17,hr=>exact hr
       |18,hr=>exact hr
       |19,hr=>exact hr
       |20,hr=>exact hr
       |21,hr=>exact hr
       |22,hr=>exact hr
       |23,hr=>exact Rd.mono hr (SN.mono d.1 o1 o2)
       |24,hr=>exact Rd.mono hr (SN.mono d.1 o1 o2)
       |25,hr=>exact⟨Sl.mono' hr.1 (SN.mono d.1 o1 o2),hr.2⟩
       |_+26,hr=>exact hr.elim
     ·refine Ax.cons O ?_ ?_
      ·intro mq hh o
       have hsN:=o.st d
       exact AJ 1 (AB O O (AE (AK (BA.refl _) O)))
      refine Ax.cons O ?_ ?_
      ·intro mq hh o
       have hsN:=o.st d
       exact AJ 1 (AL O HR O (AE (AK (BA.refl _) O)))
      refine Ax.cons O ?_ ?_
      ·intro mq hh o
       intro n0 hk
       have hsN:=o.st d
       cases hk
       exact AJ 1 (AS A3 hsN O mh O Ae O (AE (AK (BA.refl _) ⟨O,a2⟩)))
      refine Ax.cons O ?_ ?_
      ·intro mq hh o
       have hsN:=o.st d
       exact AJ 1 (AL O NM O (AE (AK (BA.refl _) O)))
      refine Ax.cons O ?_ ?_
      ·intro mq hh o
       intro n2 hl
       have hsN:=o.st d
       cases hl
       exact AJ 1 (AS A3 hsN O mh O Ae O (AE (AK (BA.refl _) ⟨O,a3⟩)))
      refine Ax.cons O ?_ ?_
      ·intro mq hh o
       have hsN:=o.st d
       exact AJ 1 (AB O O (AE (AK (BA.refl _) ⟨O,bn⟩)))
      refine Ax.cons O ?_ ?_
      ·intro mq hh o
       have hsN:=o.st d
       exact AJ 1 (Cj (vs:=[.string c.Name,.int .i64 c.Kind,.int .i64 c.From,.int .i64 c.To,ap,aq,ar,.int .i64 c.Positions,.int .i64 c.Speed,.int .i64 c.Leak,.int .i64 c.Crest,.int .i64 c.Num,.int .i64 c.Den,.int .i64 c.Prime,.int .i64 c.Break,.int .i64 c.BackNum,.int .i64 c.BackDen,.int .i64 c.Delay]) A3 hsN O mh O O F8 O O (AE (AK (BA.refl _) ⟨O,cp,cq,a6,a2,cr,ct,cu,cv,cw,cx,cy,cz,c0,c1,a3⟩)))
      refine Ax.cons O ?_ ?_
      ·intro mq hh o
       have hsN:=o.st d
       exact AJ 1 (AB O O (AE (AK (BA.refl _) O)))
      refine Ax.cons O ?_ ?_
      ·intro mq hh o
       intro n3 hm
       have hsN:=o.st d
       cases hm
       exact AJ 1 (CI O O (AE (AK (BA.refl _) O)))
      refine Ax.cons O ?_ ?_
      ·intro mq hh o
       intro n4 hn
       have hsN:=o.st d
       cases hn
       exact AJ 1 (AL O JQ O (AE (AK (BA.refl _) O)))
      refine Ax.cons O ?_ ?_
      ·intro mq hh o
       intro n5 ho
       have hsN:=o.st d
       cases ho
       exact AJ 1 (AS A3 hsN O (mt (mt mh)) O BY O (AE (AK (BA.refl _) O)))
      refine Ax.cons O ?_ ?_
      ·intro mq hh o
       have hsN:=o.st d
       exact AJ 1 (AB O O (AE (AK (BA.refl _) ⟨O,ao⟩)))
      refine Ax.cons O ?_ ?_
      ·intro mq hh o
       intro n6 hp n7 hq
       have hsN:=o.st d
       cases hp
       obtain⟨rfl,n8⟩:=hq
       exact AJ 1 (A5 hsN (mt (mt (mt (mt (mt (mt (mt (mt (mt (mt mh)))))))))) O O BP di O λn9 dp=>AE (AK (BA.refl _) dp))
      refine Ax.cons O ?_ ?_
      ·intro mq hh o
       intro oa ht
       have hsN:=o.st d
       refine AJ 1 ?_
       have hu:=hsN.epAt (mt (mt (mt (mt (mt (mt (mt (mt (mt (mt mh)))))))))) dj El.id ht
       exact Af A3 (λ_ x=>x) O hu Ae O λhv=>AE (AK (BA.refl _) ⟨O,hv⟩)
      refine Ax.cons O ?_ ?_
      ·intro mq hh o
       have hsN:=o.st d
       exact AJ 1 (AB O O (AE (AK (BA.refl _) O)))
      refine Ax.cons O ?_ ?_
      ·intro mq hh o
       intro ob hx
       have hsN:=o.st d
       cases hx
       exact AJ 1 (CI O O (AE (AK (BA.refl _) O)))
      refine Ax.cons O ?_ ?_
      ·intro mq hh o
       intro oc hy
       have hsN:=o.st d
       cases hy
       exact AJ 1 (AL O JQ O (AE (AK (BA.refl _) O)))
      refine Ax.cons O ?_ ?_
      ·intro mq hh o
       intro od hz
       have hsN:=o.st d
       cases hz
       exact AJ 1 (AS A3 hsN O (mt (mt mh)) O BY O (AE (AK (BA.refl _) O)))
      refine Ax.cons O ?_ ?_
      ·intro mq hh o
       have hsN:=o.st d
       exact AJ 1 (AL O HR O (AE (AK (BA.refl _) O)))
      refine Ax.cons O ?_ ?_
      ·intro mq hh o
       intro oe h0
       have hsN:=o.st d
       cases h0
       exact AJ 1 (AS A3 hsN O mh O Ae O (AE (AK (BA.refl _) ⟨O,a2⟩)))
      refine Ax.cons O ?_ ?_
      ·intro mq hh o
       intro og h3 oh h4
       have hsN:=o.st d
       cases h3
       obtain⟨rfl,oi⟩:=h4
       exact AJ 1 (A5 hsN (mt (mt (mt (mt (mt (mt (mt (mt (mt (mt mh)))))))))) O O BP dk O λoj dq=>AE (AK (BA.refl _) dq))
      refine Ax.cons O ?_ ?_
      ·intro mq hh o
       intro ok h5
       have hsN:=o.st d
       refine AJ 1 ?_
       have h6:=hsN.epAt (mt (mt (mt (mt (mt (mt (mt (mt (mt (mt mh)))))))))) dl El.id h5
       exact Af A3 (λ_ x=>x) O h6 Ae O λh7=>AE (AK (BA.refl _) ⟨O,h7⟩)
      refine Ax.cons O ?_ ?_
      ·intro mq hh o
       intro ol h8 om h9 oo ia
       have hsN:=SN.st d o
       obtain⟨rfl,ib,ic,ie,ig,ih,ii,ij,ik,il,im,io,ip,ir,it,iu⟩:=h8
       obtain⟨rfl,iv⟩:=h9
       obtain⟨rfl,iw⟩:=ia
       have iy:=bq.mono' (ak.trans (SN.ext d.1 o))
       have iz:=br.mono' (ak.trans (SN.ext d.1 o))
       have i0:=bs.mono' (ak.trans (SN.ext d.1 o))
       refine Bb O O O Xi O hsN (M7 (St.all _) (Bh.mk (x:=c) ib ic ie ig (iy.mono (λb hb=>hsN.1 b hb) (λ_ _=>rfl)) (iz.mono (λb hb=>hsN.1 b hb) (λ_ _=>rfl)) (i0.mono (λb hb=>hsN.1 b hb) (λ_ _=>rfl)) ih ii ij ik il im io ip ir it iu) iv iw dm) λop oq os mc ot b3 p=>?_
       obtain⟨rfl,i1,md⟩:=p
       exact AK ⟨b3.siz,λb hb=>b3.same b hb⟩ ⟨O,i1⟩
      refine Ax.cons O ?_ ?_
      ·intro mq hh o
       intro ou i2
       have hsN:=SN.st d o
       obtain⟨rfl,i3⟩:=i2
       have hsF:=hsN.fz
       refine Cr O O O Ro O (H1 hsF i3 dn) λov i4 i5 i6 p=>?_
       obtain⟨b4,rfl,i7,dr⟩:=p
       have ds:Rd i4 i5 (AN.fnr Tryz.prog (λS h vs (x:(List Int))=>∃W:Value,vs=[W]∧Sl S h AN.int W x) (λS h v (y:((List Int)×(List Int)))=>∃W w1:Value,v= .tuple #[W,w1]∧Sl S h AN.int W y.1∧Sl S h AN.int w1 y.2)) (.func (.func 89) #[] #[b4]) (λx=>AY N ag x):=Jj 89 #[b4] Rm λS' h' s' e' L hs x y vs h1 h2=>by obtain⟨W,rfl,a0⟩:=h1;exact MH (G8 hs a0 (i7.mono'' s' e') h2)
       have be:=Fz.done o i6 dr
       exact AK be.1 (Rd.mono ds be.2)
      refine Ax.cons O ?_ ?_
      ·intro mq hh o
       intro ow i8 ox i9 oy ja jb az
       have hsN:=SN.st d o
       obtain⟨rfl,jc⟩:=i8
       obtain⟨rfl,jd⟩:=i9
       obtain⟨rfl,je⟩:=ja
       have az:Rd _ _ (AN.fnr Tryz.prog (λS h vs (x:(List Int))=>∃W:Value,vs=[W]∧Sl S h AN.int W x) (λS h v (y:((List Int)×(List Int)))=>∃W w1:Value,v= .tuple #[W,w1]∧Sl S h AN.int W y.1∧Sl S h AN.int w1 y.2)) jb (λx=>AY N ag x):=az
       refine AJ 1 ?_
       obtain⟨dt,du,rfl,me,mf⟩:=az.fnr
       exact HX (cs:=[.int .i64 c.To,.int .i64 c.Delay,.int .i64 t,(.func (.func dt) #[] du)]) Ni O O O (AE (AK (BA.refl _) (Ao.mk (x:=(⟨c.To,c.Delay,t,(λx=>AY N ag x)⟩:AM)) jc jd je az)))
      refine Ax.cons O ?_ ?_
      ·intro mq hh o
       intro jf bf
       have hsN:=SN.st d o
       have bf:Rd _ _ Ao jf (⟨c.To,c.Delay,t,(λx=>AY N ag x)⟩:AM):=bf
       have hsF:=hsN.fz
       obtain⟨jg,rfl,jh,ji,jj,jk⟩:=Ao.ex bf
       refine Dw (cs:=[.int .i64 ((⟨c.To,c.Delay,t,(λx=>AY N ag x)⟩:AM).to_),.int .i64 ((⟨c.To,c.Delay,t,(λx=>AY N ag x)⟩:AM).delay),.int .i64 ((⟨c.To,c.Delay,t,(λx=>AY N ag x)⟩:AM).way),jg]) Kg O O O O O O O hsF λoz o0 dv b5=>?_
       have jl:=jk.mono b5
       have dw:=dv.bxos (r:=Ao) (l:=([(⟨c.To,c.Delay,t,(λx=>AY N ag x)⟩:AM)]:List AM)) .head ⟨_,_,O,⟨_,O,jh,ji,jj,jl⟩,O⟩ (by simp [maxLen])
       obtain⟨o3,dx,jm,jn⟩:=dw.pubs .head
       have bg:=Fz.done o (b5.trans jm) dx
       exact AK bg.1 ⟨Sl.mono' jn bg.2,_,O⟩
      exact trivial
     intro o4 b6 o5 jo o6 bh
     have dy:=SN.st d b6
     cases jo
     obtain⟨bh,mg,rfl⟩:=bh
     obtain⟨dz,E⟩:=Ly E
     refine I8 (r:=Ao) (l:=l9) (xs:=([(⟨c.To,c.Delay,t,(λx=>AY N ag x)⟩:AM)]:List AM)) O O Kg O (Sl.src bh) O dz O dy (λ_=>(.tail .head)) λjp o7 d0 jq=>AJ 1 (AF O O (AE (AX (kp [5,14,13,0,1,15] O) (BJ (WF.nil (λaa ww hf hw=>?_))))))
     have d1:=d0.sel [1,1,1,1,1,1,1,1,1,1,1] 1 O
     have d2:=a5.trans (ak.trans ((SN.ext d.1 b6).trans jq))
     exact⟨jp,(l9++([(⟨c.To,c.Delay,t,(λx=>AY N ag x)⟩:AM)]:List AM)),_,_,hf.sub (kp [14,13,0,1,15,5] O),hw,d1,d2,E⟩
    have E:=BV bc E
    refine AA (AG (.inl O) (AL O HR O (AS A3 d O mh O Ae O (AB O O (Bd O O O (AB O O (AV 4 110 (.bool ((decide (c.To=J))&&(decide (c.Kind=4)))) ?_ ?_)))))))
    ·cases o8:(decide (c.To=J))
     ·exact Aa O O
     exact AC O O O (AL O Fs O (AC O O O (AS A3 d O mh O Ae O (AC O O O (Bd O O O (AO O O O (AU O)))))))
    refine AF O O (AD (kp [101,6,7,14,13,0,1,5,15] O) (AW O (λbi=>?_) (λbi=>?_)))
    ·have E:=BU bi E
     obtain⟨o9,d3,E⟩:=bd E
     obtain⟨b7,d4,E⟩:=bd E
     obtain⟨pa,d5,E⟩:=bd E
     obtain⟨b8,d6,E⟩:=bd E
     obtain⟨b9,d7,E⟩:=bd E
     obtain⟨ca,d8,E⟩:=bd E
     obtain⟨ah,d9,E⟩:=bd E
     refine Mk (m:=[(6,.int .i64 t),(7,.pointer (some ⟨ai,0,none⟩)),(14,.int .i64 (↑p0_w.b.Links.length:Int)),(13,I),(0,.pointer (some ⟨j,0,none⟩)),(1,.int .i64 J),(5,v8),(15,.int .i64 t)]) 27 (λi v hh=>match i with|0=>v=v8|1=>v= .pointer (some ⟨ai,2,none⟩)|2=>v= .int .i64 c.From∧AI c.From|3=>v= .pointer (some ⟨ai,17,none⟩)|4=>v= .int .i64 c.Delay∧AI c.Delay|5=>v= .int .i64 t∧AI t|6=>v= .agg #[.string c.Name,.int .i64 c.Kind,.int .i64 c.From,.int .i64 c.To,ap,aq,ar,.int .i64 c.Positions,.int .i64 c.Speed,.int .i64 c.Leak,.int .i64 c.Crest,.int .i64 c.Num,.int .i64 c.Den,.int .i64 c.Prime,.int .i64 c.Break,.int .i64 c.BackNum,.int .i64 c.BackDen,.int .i64 c.Delay]∧c.Name.size≤maxLen∧AI c.Kind∧AI c.From∧AI c.To∧AI c.Positions∧AI c.Speed∧AI c.Leak∧AI c.Crest∧AI c.Num∧AI c.Den∧AI c.Prime∧AI c.Break∧AI c.BackNum∧AI c.BackDen∧AI c.Delay|7=>v= .pointer (some ⟨j,0,none⟩)|8=>v= .pointer (some ⟨j,0,none⟩)|9=>v= .pointer (some ⟨j,24,none⟩)|10=>v=g|11=>v= .pointer (some ⟨ai,2,none⟩)|12=>v= .int .i64 c.From∧AI c.From|13=>EP g (c.From.toNat*(AN.int).sz+0) v|14=>v= .int .i64 b7∧AI b7|15=>v= .pointer (some ⟨j,0,none⟩)|16=>v= .pointer (some ⟨j,0,none⟩)|17=>v= .pointer (some ⟨j,24,none⟩)|18=>v=g|19=>v= .int .i64 J∧AI J|20=>EP g (J.toNat*(AN.int).sz+0) v|21=>v= .int .i64 b8∧AI b8|22=>v= .int .i64 b9∧AI b9|23=>v= .int .i64 ca∧AI ca|24=>Rd (SN am au hh) hh (AN.fnr Tryz.prog (λS h vs (x:(List Int))=>∃W:Value,vs=[W]∧Sl S h AN.int W x) (λS h v (y:((List Int)×(List Int)))=>∃W w1:Value,v= .tuple #[W,w1]∧Sl S h AN.int W y.1∧Sl S h AN.int w1 y.2)) v (λx=>AY N ah x)|25=>Rd (SN am au hh) hh Ao v (⟨c.From,c.Delay,t,(λx=>AY N ah x)⟩:AM)|26=>Sl (SN am au hh) hh Ao v ([(⟨c.From,c.Delay,t,(λx=>AY N ah x)⟩:AM)]:List AM)∧∃ad,v= .slice (some ad) 1 1|_=>False) [[],[],[(1,112)],[],[(3,114)],[],[],[],[(7,118)],[(8,119)],[(9,120)],[],[(11,122)],[(10,121),(12,123)],[(13,124)],[],[(15,126)],[(16,127)],[(17,128)],[],[(18,129),(19,130)],[(20,131)],[(6,117),(14,125),(21,132)],[(22,133)],[(23,134)],[(2,113),(4,115),(5,116),(24,135)],[(25,136)]] [(0,111),(26,137)] mo (by kernel_rfl) [6,7,14,13,0,1,5,15] O (by kernel_rfl) (by kernel_rfl) (by kernel_rfl) (kp [6,7,14,13,0,1,5,15] O) (λi v h1 h2 o1 o2 hr=>?_) ?_ ?_
     ·match i,hr with
       |0,hr=>exact hr
       |1,hr=>exact hr
       |2,hr=>exact hr
       |3,hr=>exact hr
       |4,hr=>exact hr
       |5,hr=>exact hr
       |6,hr=>exact hr
       |7,hr=>exact hr
       |8,hr=>exact hr
       |9,hr=>exact hr
       |10,hr=>exact hr
       |11,hr=>exact hr
       |12,hr=>exact hr
       |13,hr=>exact hr
       |14,hr=>exact hr
       |15,hr=>exact hr
       |16,hr=>exact hr
       |17,hr=>exact hr
       |18,hr=>exact hr
       |19,hr=>exact hr
       |20,hr=>exact hr
       |21,hr=>exact hr
       |22,hr=>exact hr
       |23,hr=>exact hr
       |24,hr=>exact Rd.mono hr (SN.mono d.1 o1 o2)
       |25,hr=>exact Rd.mono hr (SN.mono d.1 o1 o2)
       |26,hr=>exact⟨Sl.mono' hr.1 (SN.mono d.1 o1 o2),hr.2⟩
       |_+27,hr=>exact hr.elim
     ·refine Ax.cons O ?_ ?_
      ·intro mq hh o
       have hsN:=o.st d
       exact AJ 1 (AB O O (AE (AK (BA.refl _) O)))
      refine Ax.cons O ?_ ?_
      ·intro mq hh o
       have hsN:=o.st d
       exact AJ 1 (AL O Id O (AE (AK (BA.refl _) O)))
      refine Ax.cons O ?_ ?_
      ·intro mq hh o
       intro pb jr
       have hsN:=o.st d
       cases jr
       exact AJ 1 (AS A3 hsN O mh O Ae O (AE (AK (BA.refl _) ⟨O,a6⟩)))
      refine Ax.cons O ?_ ?_
      ·intro mq hh o
       have hsN:=o.st d
       exact AJ 1 (AL O NM O (AE (AK (BA.refl _) O)))
      refine Ax.cons O ?_ ?_
      ·intro mq hh o
       intro pc js
       have hsN:=o.st d
       cases js
       exact AJ 1 (AS A3 hsN O mh O Ae O (AE (AK (BA.refl _) ⟨O,a3⟩)))
      refine Ax.cons O ?_ ?_
      ·intro mq hh o
       have hsN:=o.st d
       exact AJ 1 (AB O O (AE (AK (BA.refl _) ⟨O,bn⟩)))
      refine Ax.cons O ?_ ?_
      ·intro mq hh o
       have hsN:=o.st d
       exact AJ 1 (Cj (vs:=[.string c.Name,.int .i64 c.Kind,.int .i64 c.From,.int .i64 c.To,ap,aq,ar,.int .i64 c.Positions,.int .i64 c.Speed,.int .i64 c.Leak,.int .i64 c.Crest,.int .i64 c.Num,.int .i64 c.Den,.int .i64 c.Prime,.int .i64 c.Break,.int .i64 c.BackNum,.int .i64 c.BackDen,.int .i64 c.Delay]) A3 hsN O mh O O F8 O O (AE (AK (BA.refl _) ⟨O,cp,cq,a6,a2,cr,ct,cu,cv,cw,cx,cy,cz,c0,c1,a3⟩)))
      refine Ax.cons O ?_ ?_
      ·intro mq hh o
       have hsN:=o.st d
       exact AJ 1 (AB O O (AE (AK (BA.refl _) O)))
      refine Ax.cons O ?_ ?_
      ·intro mq hh o
       intro pd jt
       have hsN:=o.st d
       cases jt
       exact AJ 1 (CI O O (AE (AK (BA.refl _) O)))
      refine Ax.cons O ?_ ?_
      ·intro mq hh o
       intro pe ju
       have hsN:=o.st d
       cases ju
       exact AJ 1 (AL O JQ O (AE (AK (BA.refl _) O)))
      refine Ax.cons O ?_ ?_
      ·intro mq hh o
       intro pf jv
       have hsN:=o.st d
       cases jv
       exact AJ 1 (AS A3 hsN O (mt (mt mh)) O BY O (AE (AK (BA.refl _) O)))
      refine Ax.cons O ?_ ?_
      ·intro mq hh o
       have hsN:=o.st d
       exact AJ 1 (AL O Id O (AE (AK (BA.refl _) O)))
      refine Ax.cons O ?_ ?_
      ·intro mq hh o
       intro pg jw
       have hsN:=o.st d
       cases jw
       exact AJ 1 (AS A3 hsN O mh O Ae O (AE (AK (BA.refl _) ⟨O,a6⟩)))
      refine Ax.cons O ?_ ?_
      ·intro mq hh o
       intro ph jx pi jy
       have hsN:=o.st d
       cases jx
       obtain⟨rfl,pj⟩:=jy
       exact AJ 1 (A5 hsN (mt (mt (mt (mt (mt (mt (mt (mt (mt (mt mh)))))))))) O O BP d3 O λpk ea=>AE (AK (BA.refl _) ea))
      refine Ax.cons O ?_ ?_
      ·intro mq hh o
       intro pl jz
       have hsN:=o.st d
       refine AJ 1 ?_
       have j0:=hsN.epAt (mt (mt (mt (mt (mt (mt (mt (mt (mt (mt mh)))))))))) d4 El.id jz
       exact Af A3 (λ_ x=>x) O j0 Ae O λj1=>AE (AK (BA.refl _) ⟨O,j1⟩)
      refine Ax.cons O ?_ ?_
      ·intro mq hh o
       have hsN:=o.st d
       exact AJ 1 (AB O O (AE (AK (BA.refl _) O)))
      refine Ax.cons O ?_ ?_
      ·intro mq hh o
       intro pm j2
       have hsN:=o.st d
       cases j2
       exact AJ 1 (CI O O (AE (AK (BA.refl _) O)))
      refine Ax.cons O ?_ ?_
      ·intro mq hh o
       intro pn j3
       have hsN:=o.st d
       cases j3
       exact AJ 1 (AL O JQ O (AE (AK (BA.refl _) O)))
      refine Ax.cons O ?_ ?_
      ·intro mq hh o
       intro po j4
       have hsN:=o.st d
       cases j4
       exact AJ 1 (AS A3 hsN O (mt (mt mh)) O BY O (AE (AK (BA.refl _) O)))
      refine Ax.cons O ?_ ?_
      ·intro mq hh o
       have hsN:=o.st d
       exact AJ 1 (AB O O (AE (AK (BA.refl _) ⟨O,ao⟩)))
      refine Ax.cons O ?_ ?_
      ·intro mq hh o
       intro pp j5 pq j6
       have hsN:=o.st d
       cases j5
       obtain⟨rfl,pr⟩:=j6
       exact AJ 1 (A5 hsN (mt (mt (mt (mt (mt (mt (mt (mt (mt (mt mh)))))))))) O O BP d5 O λps eb=>AE (AK (BA.refl _) eb))
      refine Ax.cons O ?_ ?_
      ·intro mq hh o
       intro pt j7
       have hsN:=o.st d
       refine AJ 1 ?_
       have j8:=hsN.epAt (mt (mt (mt (mt (mt (mt (mt (mt (mt (mt mh)))))))))) d6 El.id j7
       exact Af A3 (λ_ x=>x) O j8 Ae O λj9=>AE (AK (BA.refl _) ⟨O,j9⟩)
      refine Ax.cons O ?_ ?_
      ·intro mq hh o
       intro pu ka pv kb pw kc
       have hsN:=SN.st d o
       obtain⟨rfl,kd,ke,kf,kg,kh,ki,kj,kk,kl,km,kn,ko,kq,kr,ks⟩:=ka
       obtain⟨rfl,kt⟩:=kb
       obtain⟨rfl,ku⟩:=kc
       have kv:=bq.mono' (ak.trans (SN.ext d.1 o))
       have kw:=br.mono' (ak.trans (SN.ext d.1 o))
       have kx:=bs.mono' (ak.trans (SN.ext d.1 o))
       refine Bb O O O Xi O hsN (M7 (St.all _) (Bh.mk (x:=c) kd ke kf kg (kv.mono (λb hb=>hsN.1 b hb) (λ_ _=>rfl)) (kw.mono (λb hb=>hsN.1 b hb) (λ_ _=>rfl)) (kx.mono (λb hb=>hsN.1 b hb) (λ_ _=>rfl)) kh ki kj kk kl km kn ko kq kr ks) kt ku d7) λpx py pz mi p0 cb p=>?_
       obtain⟨rfl,ky,mj⟩:=p
       exact AK ⟨cb.siz,λb hb=>cb.same b hb⟩ ⟨O,ky⟩
      refine Ax.cons O ?_ ?_
      ·intro mq hh o
       intro p1 kz
       have hsN:=SN.st d o
       obtain⟨rfl,k0⟩:=kz
       refine Bb O O O Rp O hsN (IZ (St.all _) (iq (n:=0) O) k0 d8) λp2 p3 p4 ml p5 cc p=>?_
       obtain⟨rfl,k1,mm⟩:=p
       exact AK ⟨cc.siz,λb hb=>cc.same b hb⟩ ⟨O,k1⟩
      refine Ax.cons O ?_ ?_
      ·intro mq hh o
       intro p6 k2
       have hsN:=SN.st d o
       obtain⟨rfl,k3⟩:=k2
       have hsF:=hsN.fz
       refine Cr O O O Ro O (H1 hsF k3 d9) λp7 k4 k5 k6 p=>?_
       obtain⟨cd,rfl,k7,ec⟩:=p
       have ed:Rd k4 k5 (AN.fnr Tryz.prog (λS h vs (x:(List Int))=>∃W:Value,vs=[W]∧Sl S h AN.int W x) (λS h v (y:((List Int)×(List Int)))=>∃W w1:Value,v= .tuple #[W,w1]∧Sl S h AN.int W y.1∧Sl S h AN.int w1 y.2)) (.func (.func 89) #[] #[cd]) (λx=>AY N ah x):=Jj 89 #[cd] Rm λS' h' s' e' L hs x y vs h1 h2=>by obtain⟨W,rfl,a0⟩:=h1;exact MH (G8 hs a0 (k7.mono'' s' e') h2)
       have bj:=Fz.done o k6 ec
       exact AK bj.1 (Rd.mono ed bj.2)
      refine Ax.cons O ?_ ?_
      ·intro mq hh o
       intro p8 k8 p9 k9 qa la lb a1
       have hsN:=SN.st d o
       obtain⟨rfl,lc⟩:=k8
       obtain⟨rfl,le⟩:=k9
       obtain⟨rfl,lf⟩:=la
       have a1:Rd _ _ (AN.fnr Tryz.prog (λS h vs (x:(List Int))=>∃W:Value,vs=[W]∧Sl S h AN.int W x) (λS h v (y:((List Int)×(List Int)))=>∃W w1:Value,v= .tuple #[W,w1]∧Sl S h AN.int W y.1∧Sl S h AN.int w1 y.2)) lb (λx=>AY N ah x):=a1
       refine AJ 1 ?_
       obtain⟨ee,ef,rfl,mn,mp⟩:=a1.fnr
       exact HX (cs:=[.int .i64 c.From,.int .i64 c.Delay,.int .i64 t,(.func (.func ee) #[] ef)]) Ni O O O (AE (AK (BA.refl _) (Ao.mk (x:=(⟨c.From,c.Delay,t,(λx=>AY N ah x)⟩:AM)) lc le lf a1)))
      refine Ax.cons O ?_ ?_
      ·intro mq hh o
       intro lg bk
       have hsN:=SN.st d o
       have bk:Rd _ _ Ao lg (⟨c.From,c.Delay,t,(λx=>AY N ah x)⟩:AM):=bk
       have hsF:=hsN.fz
       obtain⟨lh,rfl,li,lj,ll,lm⟩:=Ao.ex bk
       refine Dw (cs:=[.int .i64 ((⟨c.From,c.Delay,t,(λx=>AY N ah x)⟩:AM).to_),.int .i64 ((⟨c.From,c.Delay,t,(λx=>AY N ah x)⟩:AM).delay),.int .i64 ((⟨c.From,c.Delay,t,(λx=>AY N ah x)⟩:AM).way),lh]) Kg O O O O O O O hsF λqb qc eg ce=>?_
       have lo:=lm.mono ce
       have eh:=eg.bxos (r:=Ao) (l:=([(⟨c.From,c.Delay,t,(λx=>AY N ah x)⟩:AM)]:List AM)) .head ⟨_,_,O,⟨_,O,li,lj,ll,lo⟩,O⟩ (by simp [maxLen])
       obtain⟨qd,ei,lp,lq⟩:=eh.pubs .head
       have bl:=Fz.done o (ce.trans lp) ei
       exact AK bl.1 ⟨Sl.mono' lq bl.2,_,O⟩
      exact trivial
     intro qe cf qf lr qg bm
     have ej:=SN.st d cf
     cases lr
     obtain⟨bm,mr,rfl⟩:=bm
     obtain⟨ek,E⟩:=Ly E
     refine I8 (r:=Ao) (l:=l9) (xs:=([(⟨c.From,c.Delay,t,(λx=>AY N ah x)⟩:AM)]:List AM)) O O Kg O (Sl.src bm) O ek O ej (λ_=>(.tail .head)) λls qh el lt=>AJ 1 (AF O O (AE (AX (kp [5,14,13,0,1,15] O) (BJ (WF.nil (λaa ww hf hw=>?_))))))
     have em:=el.sel [1,1,1,1,1,1,1,1,1,1,1] 1 O
     have en:=a5.trans (ak.trans ((SN.ext d.1 cf).trans lt))
     exact⟨ls,(l9++([(⟨c.From,c.Delay,t,(λx=>AY N ah x)⟩:AM)]:List AM)),_,_,hf.sub (kp [14,13,0,1,15,5] O),hw,em,en,E⟩
    have E:=BV bi E
    refine AT (BJ (WF.nil (λaa ww hf hw=>?_)))
    have eo:=d.sel [1,1,1,1,1,1,1,1,1,1,1] 1 O
    exact⟨v8,l9,_,_,hf.sub (kp [14,13,0,1,15,5] O),hw,eo,(a5.trans ak),E⟩
   rintro aa ww ⟨bo,bp,qi,qj,hf,hw,ep,lu,E⟩
   refine Ad ?_ hf hw
   clear hf hw ww aa
   rw[C1] at E
   refine AG (.inl O) (Ap O O O (AB O O (AD (kp [15,14,13,0,1,5] O) (WF.nil (λaa ww hf hw=>?_)))))
   exact⟨bo,bp,(BD (t+1)),_,_,hf.sub (kp [14,13,0,1,5,15] O),hw,ep,(cn.trans lu),(BG _),E⟩
  have E:=BV co E
  refine BB O (λaa ww hf hw=>?_)
  exact⟨v8,l9,_,_,hf.sub (kp [5] O),hw,a4,cn,E⟩
 rintro aa ww ⟨v2,l3,qk,ql,hf,hw,eq,lv,E⟩
 refine Ad ?_ hf hw
 clear hf hw ww aa
 rw[Ce] at E
 refine AA (AG (.inl O) (AB O O (AF O O (AD (kp [4] O) (Ab (λaa ww hf hw=>?_))))))
 cases E
 exact Dp hf hw O O lv eq
end Go.Proofs.YtblcgjadhemlbaaGreat
