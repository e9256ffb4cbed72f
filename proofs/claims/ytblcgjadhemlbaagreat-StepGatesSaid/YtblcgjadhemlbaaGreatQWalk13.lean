import Derived.Test.YtblcgjadhemlbaaGreatQWalk12
namespace Go.Proofs.YtblcgjadhemlbaaGreat
open Go.RowKit
set_option linter.unusedVariables false
set_option linter.unusedSimpArgs false
set_option maxRecDepth 10000
set_option maxHeartbeats 2000000
variable {N:Nat}{S:Nat→Prop}{L:List HP}{h:Aq}
theorem OH (hs:St S L h) {c:Value}{d:Dh}(s:Rd S h Br c d) {i:Int}(u:AI i) {b:Int}(m:AI b) {r:Int×Int}(E:IW N d i b=some r):
 CG Tryz.prog 65 #[c,.int .i64 i,.int .i64 b] S h (λv S' h'=>v= .tuple #[.int .i64 r.1,.int .i64 r.2]∧AI r.1∧AI r.2∧St S' (L) h'):=by
 refine BC (l:=[c,.int .i64 i,.int .i64 b]) 51 Tryz.func65 O Tryz.ntmps65 O λB=>?_
 rw[IW] at E
 refine AA (Am (B1 O s (λe=>by cases e) O hs λq1 S2 h3 y M K=>AJ 2 (AF O O (AF O O (AE (AX (kp [3,1,2] O) (AA (Bn (.inl O) y (AB O O (Ac O K Dh.f_Num Qa O λq7 k8=>Af BZ y.1 O k8 Ae O λr9=>Ac O K Dh.f_Den KY O λac Q=>Af BZ y.1 O Q Ae O λU=>?_))))))))))
 obtain⟨g,G,E⟩:=bd E
 refine Hh (v:= .tuple #[.int .i64 g.1,.int .i64 g.2.1,.bool g.2.2]) (Ψ:=AI g.1∧AI g.2.1) O O O Rn O (λh' o=>(Hf (St.all h') u r9 U G).mono λ_ _ _ _ p=>⟨p.1,⟨p.2.1,p.2.2.1⟩⟩) λV=>?_
 obtain⟨W,ad⟩:=V
 refine AB O O (CJ O O O (CJ O O O (CJ O O O (AF O O (AF O O (AF O O (BK (kp [10,9,8,3,2] O) λz j t=>AA (AA (AG (.inl O) (AB O O (Bv O O (AD (kp [23,9,8,3,2] O) (AW O (λA=>?_) (λA=>?_))))))))))))))
 ·have E:=BU A E
  refine AA (AG (.inl O) (AF O O (AF O O (AD (kp [7,6] O) (Ab (λaa ww hf hw=>?_))))))
  cases E
  exact Jn hf O hw (Hn (qQ hf (v:=_) O) (Hn (qQ hf (v:=_) O) Jm)) O (M.trans t) ⟨O,(iq (n:=0) O),(iq (n:=0) O),j⟩
 have E:=BV A E
 refine AT (AA (AG (.inl O) (AF O O (AD (kp [11,9,8,3,2] O) (AA (AA (AG (.inl O) (AB O O (Hr O O O (AB O O (AV 5 31 (.bool ((decide (0≤b))&&(decide (b<d.Den)))) ?_ ?_)))))))))))
 ·cases ae:(decide (0≤b))
  ·exact Aa O O
  refine AC O O O (AB O O (AC O O O ?_))
  have X:=K.mono t
  exact Ac O X Dh.f_Den KY O λaf Y=>AC O O O (Af A3 j.1 O Y Ae O λag=>AC O O O (A0 O O O (AO O O O (AU O))))
 refine AD (kp [31,11,9,8,3,2] O) (GW (λa w=>∃(x:Int),IV B S2 z (51,[]) a w [(9,.int .i64 g.2.1),(8,.int .i64 g.1),(3,q1),(11,.int .i64 x)] (L) λ_ _=>AI x∧HG N d g x=some r) ?_ ?_)
 ·refine AW O (λC=>?_) (λC=>?_)
  ·have E:=BU C E
   refine AG (.inl O) (AB O O (AF O O (AD (kp [11,9,8,3] O) (WF.nil (λaa ww hf hw=>?_)))))
   exact⟨b,_,_,hf.sub (kp [9,8,3,11] O),hw,j,(B8.refl S2 z),m,E⟩
  have E:=BV C E
  refine AT (WF.nil (λaa ww hf hw=>?_))
  exact⟨0,_,_,hf.sub (kp [9,8,3,11] O),hw,j,(B8.refl S2 z),(iq (n:=0) O),E⟩
 rintro aa ww ⟨x,ah,ai,hf,hw,k,D,aj,E⟩
 refine Ad ?_ hf hw
 clear hf hw ww aa
 rw[HG] at E
 refine AA (AA (AG (.inl O) (AB O O (AB O O (Ap O O O ?_)))))
 have H:=K.mono (t.trans D)
 refine Ac O H Dh.f_Den KY O λak Z=>Af A3 k.1 O Z Ae O λal=>A0 O O O (AD (kp [38,9,8,3,11] O) (AW O (λF=>?_) (λF=>?_)))
 ·have E:=BU F E
  refine AA (AG (.inl O) (AB O O (AB O O (AB O O (Ap O O O (AF O O (AF O O (AD (kp [7,6] O) (Ab (λaa ww hf hw=>?_))))))))))
  cases E
  have I:=M.trans (t.trans D)
  exact Jn hf O hw (Hn (qQ hf (v:=_) O) (Hn (qQ hf (v:=_) O) Jm)) O I ⟨O,W,(BG _),k⟩
 have E:=BV F E
 refine AT (AA (AG (.inr ⟨mo,by kernel_rfl⟩) (AB O O (Ap O O O (AB O O (AB O O (Ap O O O (Ac O H Dh.f_Den KY O λam ab=>Af A3 k.1 O ab Ae O λan=>Dg O O O (AF O O (AF O O (AD (kp [7,6] O) (Ab (λaa ww hf hw=>?_)))))))))))))
 cases E
 have J:=M.trans (t.trans D)
 exact Jn hf O hw (Hn (qQ hf (v:=_) O) (Hn (qQ hf (v:=_) O) Jm)) O J ⟨O,(BG _),(BG _),k⟩
theorem MY {u:Nat}{p0_w:Ai}{J:Value}{K:Value}{M:Value}{Q:Value}{U:Value}{V:Value}{W:Value}{X:Value}{A:Value}{C:Value}{D:Value}{F:Value}{G:Value}{ak:Value}{t:Value}{c:Value}{d:Value}{g:Value}{am:Value}{an:Value}{j:Value}{ao:Value}(hs:St S (Bx u 84 [.string p0_w.b.Name,J,.int .i64 p0_w.b.Cells,K,M,Q,U,V,W,X,.int .i64 p0_w.b.Err,A,C,D,F,G,.int .i64 p0_w.s.Hour,ak,t,c,d,g,am,an,j,ao]::OS (AN.sl AN.int) 29 ak p0_w.s.Own::OS AN.int 3 t p0_w.s.Rem::OS An 60 c p0_w.s.Queue::OS A4 69 d p0_w.s.Gates::OS AN.int 3 g p0_w.s.In::OS AN.int 3 am p0_w.s.Out::OS BT 50 an p0_w.moves::OS AN.int 3 j p0_w.peaks::OS An 60 ao p0_w.sent::L) h) (af:p0_w.b.Name.size≤maxLen) (ca:Sl S h AN.str J p0_w.b.Owners) (ag:AI p0_w.b.Cells) (az:Sl S h Br K p0_w.b.Places) (cb:Sl S h Bh M p0_w.b.Links) (cc:Sl S h F6 Q p0_w.b.Towns) (cd:Sl S h D4 U p0_w.b.Gauges) (ce:Sl S h Fo V p0_w.b.Roads) (cf:Sl S h Cw W p0_w.b.Shelters) (cg:Sl S h AN.int X p0_w.b.Room) (ad:AI p0_w.b.Err) (bj:Sl S h AN.int A p0_w.in_.Rain) (bk:Sl S h Ek C p0_w.in_.Faults) (bl:Sl S h Hg D p0_w.in_.Cmds) (bm:Sl S h FJ F p0_w.in_.Takes) (bn:Sl S h F7 G p0_w.in_.Swaps) (ae:AI p0_w.s.Hour) {z:Int}(ap:AI z) {r:(List (List Int))×(List Int)×(List Int)×(List Av)×(List Az)}(E:Gu N p0_w z=some r):
 CG Tryz.prog 34 #[.pointer (some ⟨u,0,none⟩),.int .i64 z] S h (λv S' h'=>∃w_0_17 w_0_18 w_0_22 w_0_23 w_0_25:Value,v= .tuple #[]∧St S' (Bx u 84 [.string p0_w.b.Name,J,.int .i64 p0_w.b.Cells,K,M,Q,U,V,W,X,.int .i64 p0_w.b.Err,A,C,D,F,G,.int .i64 p0_w.s.Hour,w_0_17,w_0_18,c,d,g,w_0_22,w_0_23,j,w_0_25]::OS (AN.sl AN.int) 29 w_0_17 r.1::OS AN.int 3 w_0_18 r.2.1::OS An 60 c p0_w.s.Queue::OS A4 69 d p0_w.s.Gates::OS AN.int 3 g p0_w.s.In::OS AN.int 3 w_0_22 r.2.2.1::OS BT 50 w_0_23 r.2.2.2.1::OS AN.int 3 j p0_w.peaks::OS An 60 w_0_25 r.2.2.2.2::L) h'):=by
 refine BC (l:=[.pointer (some ⟨u,0,none⟩),.int .i64 z]) 119 Tryz.func34 O Tryz.ntmps34 O λB=>?_
 rw[Gu] at E
 refine AA (Am (AJ 8 (AB O O (CI O O (AL O Fq O (AL O DK O (AS A3 hs O mh O F9 O (AB O O ?_))))))))
 obtain⟨k,kc,E⟩:=bd E
 refine A8 O O az FA kc O λq2 k3=>Bw A3 hs.1 O k3 JZ (λe=>by cases e) O λv4 k5=>AE (Cg Nv O hs λb6 h7 kd e9=>?_)
 have ke:=k5.mono e9
 obtain⟨bo,bp,bq,rfl,kf,kg,kh,ki,fu,fv,kj,kk,d0,d1,kl,fw⟩:=Br.ex ke
 refine Ge (vs:=[.string k.Name,.int .i64 k.Kind,.int .i64 k.Office,.int .i64 k.Cap,bo,bp,.int .i64 k.Num,.int .i64 k.Den,.int .i64 k.Down,.int .i64 k.Delay,.int .i64 k.Floor,bq]) (cs':=[.string k.Name,.int .i64 k.Kind,.int .i64 k.Office,.int .i64 k.Cap,bo,bp,.int .i64 k.Num,.int .i64 k.Den,.int .i64 k.Down,.int .i64 k.Delay,.int .i64 k.Floor,bq]) O O O (AH O (AH O (AH O (AH O (AH fu.one (AH fv.one (AH O (AH O (AH O (AH O (AH O (AH fw.one D2)))))))))))) JZ O kd .head O O λm4 fx ai=>AX (kp [4,0,1] O) (AA (AA (Am (AJ 2 (AB O O (AB O O (AE ?_)))))))
 have fy:=fx.sel [1,1,1,1,1,1,1,1,1,1,0] 0 O
 have f0:=ca.mono' (e9.trans ai)
 have f1:=az.mono' (e9.trans ai)
 have f2:=cb.mono' (e9.trans ai)
 have f3:=cc.mono' (e9.trans ai)
 have f4:=cd.mono' (e9.trans ai)
 have f5:=ce.mono' (e9.trans ai)
 have f6:=cf.mono' (e9.trans ai)
 have f7:=cg.mono' (e9.trans ai)
 have f8:=bj.mono' (e9.trans ai)
 have f9:=bk.mono' (e9.trans ai)
 have ga:=bl.mono' (e9.trans ai)
 have gb:=bm.mono' (e9.trans ai)
 have gc:=bn.mono' (e9.trans ai)
 obtain⟨gd,ge,E⟩:=bd E
 refine Cr O O O aV O (MV (p0_w:=p0_w) fy af f0 ag f1 f2 f3 f4 f5 f6 f7 ad f8 f9 ga gb gc ae ap ge) λm5 m6 m7 aj p=>?_
 have gf:=p
 refine AJ 2 (AB O O (AB O O (AE ?_)))
 have gg:=gf.sel [1,1,1,1,1,1,1,1,1,1,0,0] 0 O
 have c9:=f0.mono' aj
 have da:=f1.mono' aj
 have db:=f2.mono' aj
 have dc:=f3.mono' aj
 have dd:=f4.mono' aj
 have de:=f5.mono' aj
 have df:=f6.mono' aj
 have dg:=f7.mono' aj
 have dh:=f8.mono' aj
 have di:=f9.mono' aj
 have dj:=ga.mono' aj
 have dk:=gb.mono' aj
 have dl:=gc.mono' aj
 obtain⟨gh,gi,E⟩:=bd E
 refine Cr O O O aU O (MZ (p0_w:=p0_w) gg af c9 ag da db dc dd de df dg ad dh di dj dk dl ae ap gi) λm8 m9 na ch p=>?_
 have gj:=p
 obtain⟨nb,gk,ci,km⟩:=gj.pubs (.tail (.tail (.tail (.tail (.tail (.tail (.tail (.tail (.tail (.tail (.tail .head)))))))))))
 obtain⟨nd,gl,br,gm⟩:=gk.pubs .head
 have gn:=km.mono' br
 obtain⟨gp,d2,rfl,ne⟩:=(gn).len
 obtain⟨gq,d3,rfl,nf⟩:=(gm).len
 refine Dw (cs:=[(.slice gp gd.length d2),(.slice gq gh.length d3)]) Yd O O O O O O O gl λng nh gr ba=>?_
 have kn:=gm.mono' ba
 have ko:=gn.mono' ba
 have gs:=gr.bxos (r:=(AN.sl Ao)) (l:=([gd,gh]:List (List AM))) .head ⟨_,_,O,⟨_,O,ko⟩,⟨_,_,O,⟨_,O,kn⟩,O⟩⟩ (by simp [maxLen])
 obtain⟨ni,gt,cj,kq⟩:=gs.pubs .head
 obtain⟨d4,gu,E⟩:=bd E
 refine Cr O O O aW O (GN gt kq gu) λgv d5 d6 a1 p=>?_
 have ck:=p
 refine AJ 2 (LJ ck mh O K3 O λkx=>AB O O (AE (AX (kp [27,26,25,4,0,1] O) (Aj (λa w=>∃(a2:Value) (ar:List (List Int)) (a3:Value) (au:List Int) (a4:Value) (av:List Av) (a5:Value) (aw:List Az),IV B d5 d6 (119,[]) a w [(4,.pointer (some ⟨b6,0,none⟩)),(0,.pointer (some ⟨u,0,none⟩)),(1,.int .i64 z)] (OS (AN.sl AN.int) 29 a2 ar::OS AN.int 3 a3 au::OS BT 50 a4 av::OS An 60 a5 aw::Bx u 84 [.string p0_w.b.Name,J,.int .i64 p0_w.b.Cells,K,M,Q,U,V,W,X,.int .i64 p0_w.b.Err,A,C,D,F,G,.int .i64 p0_w.s.Hour,a2,t,c,d,g,a3,a4,j,a5]::OS AN.int 3 t p0_w.s.Rem::OS An 60 c p0_w.s.Queue::OS A4 69 d p0_w.s.Gates::OS AN.int 3 g p0_w.s.In::OS AN.int 3 j p0_w.peaks::Bx b6 56 [.string k.Name,.int .i64 k.Kind,.int .i64 k.Office,.int .i64 k.Cap,bo,bp,.int .i64 k.Num,.int .i64 k.Den,.int .i64 k.Down,.int .i64 k.Delay,.int .i64 k.Floor,bq]::L) λ_ _=>Es N p0_w z k ar au av aw=some r) ?_ ?_))))
 ·refine Ay (λn1=>λa w=>∃(bb:Int) (bu:Value) (bc:List (List Int)) (bv:Value) (be:List Int) (bw:Value) (bf:List Av) (bx:Value) (bg:List Az),IV B d5 d6 (119,[]) a w [(26,.int .i64 (↑d4.length:Int)),(25,gv),(4,.pointer (some ⟨b6,0,none⟩)),(0,.pointer (some ⟨u,0,none⟩)),(1,.int .i64 z),(27,.int .i64 bb)] (OS (AN.sl AN.int) 29 bu bc::OS AN.int 3 bv be::OS BT 50 bw bf::OS An 60 bx bg::OS Ao 111 gv d4::Bx u 84 [.string p0_w.b.Name,J,.int .i64 p0_w.b.Cells,K,M,Q,U,V,W,X,.int .i64 p0_w.b.Err,A,C,D,F,G,.int .i64 p0_w.s.Hour,bu,t,c,d,g,bv,bw,j,bx]::OS AN.int 3 t p0_w.s.Rem::OS An 60 c p0_w.s.Queue::OS A4 69 d p0_w.s.Gates::OS AN.int 3 g p0_w.s.In::OS AN.int 3 j p0_w.peaks::Bx b6 56 [.string k.Name,.int .i64 k.Kind,.int .i64 k.Office,.int .i64 k.Cap,bo,bp,.int .i64 k.Num,.int .i64 k.Den,.int .i64 k.Down,.int .i64 k.Delay,.int .i64 k.Floor,bq]::L) λ_ _=>AI bb∧Cz N p0_w z d4 (Es N p0_w z k) n1 bb bc be bf bg=some r) N ?_ ?_ ?_
  ·intro aa ww hf hw
   have d7:=ck.sel [2,6,6,7,0,0,0,0,0,0,0,0] 0 O
   exact⟨0,ak,p0_w.s.Own,am,p0_w.s.Out,an,p0_w.moves,ao,p0_w.sent,_,_,hf.sub (kp [26,25,4,0,1,27] O),hw,d7,(B8.refl d5 d6),(iq (n:=0) O),E⟩
  ·rintro aa ww ⟨_,_,_,_,_,_,_,_,_,_,_,_,_,_,_,_,E⟩
   rw[Cz] at E;cases E
  rintro n1 aa ww ⟨bb,bu,bc,bv,be,bw,bf,bx,bg,ky,kz,hf,hw,a8,cl,k0,E⟩
  refine Ad ?_ hf hw
  clear hf hw ww aa
  rw[Cz] at E
  refine AA (AG (.inl O) (A0 O O O (AD (kp [28,26,25,4,0,1,27] O) (AA (AW O (λcm=>?_) (λcm=>?_))))))
  ·have E:=BU cm E
   refine AT (AA (A6 (AA (Am (AJ 2 ?_)))))
   obtain⟨k1,d8,E⟩:=bd E
   refine A5 a8 (mt (mt (mt (mt mh)))) O O K3 d8 O λk2 d9=>?_
   obtain⟨ax,ea,E⟩:=bd E
   have gw:=a8.epAt (mt (mt (mt (mt mh)))) ea El.id d9
   refine Bw A3 (λ_ x=>x) O gw R0 (λe=>by cases e) O λk4 gx=>AE (Cg X3 O a8 λk6 k7 eb cn=>?_)
   have gy:=gx.mono cn
   obtain⟨k8,rfl,gz,g0,g1,dm⟩:=Ao.ex gy
   obtain⟨co,cp,rfl,kr,ks⟩:=dm.fnr
   refine DD (vs:=[.int .i64 ax.to_,.int .i64 ax.delay,.int .i64 ax.way,(.func (.func co) #[] cp)]) O O O O R0 O eb .head O λk9 cq cr=>AX (kp [6,26,25,4,0,1,27] O) (Am (AJ 3 (AB O O (AB O O (Cj (vs:=[.int .i64 ax.to_,.int .i64 ax.delay,.int .i64 ax.way,(.func (.func co) #[] cp)]) A3 cq O mh O O R0 O O (AE ?_))))))
   have ec:=cq.sel [6,1,5,5,5,5,1,1,3,1,0,0,0] 0 O
   have Y:=ch.trans (ci.trans (br.trans (ba.trans (cj.trans (a1.trans (cl.trans (cn.trans cr)))))))
   have g2:=c9.mono' Y
   have g3:=da.mono' Y
   have g4:=db.mono' Y
   have g5:=dc.mono' Y
   have g6:=dd.mono' Y
   have g7:=de.mono' Y
   have g8:=df.mono' Y
   have g9:=dg.mono' Y
   have ha:=dh.mono' Y
   have hb:=di.mono' Y
   have hc:=dj.mono' Y
   have hd:=dk.mono' Y
   have he:=dl.mono' Y
   have hg:=dm.mono cr
   obtain⟨bz,ed,E⟩:=bd E
   refine Cr O O O Vk O (Il (p0_w:=(⟨p0_w.b,p0_w.in_,(⟨p0_w.s.Hour,bc,p0_w.s.Rem,p0_w.s.Queue,p0_w.s.Gates,p0_w.s.In,be⟩:Al),bf,p0_w.peaks,bg⟩:Ai)) ec af g2 ag g3 g4 g5 g6 g7 g8 g9 ad ha hb hc hd he ae ap (Ao.mk (x:=ax) gz g0 g1 hg) ed) λla lb lc hi p=>?_
   obtain⟨hj,hk,hl,hm,rfl,ee⟩:=p
   refine AX (kp [26,25,4,0,1,27] O) (BJ (AG (.inl O) (Ap O O O (AB O O (AD (kp [27,26,25,4,0,1] O) (WF.nil (λaa ww hf hw=>?_)))))))
   have ef:=ee.sel [1,5,5,6,7,0,0,0,0,0,0,1] 1 O
   have eg:=cl.trans (cn.trans (cr.trans hi))
   exact⟨(BD (bb+1)),hj,bz.1,hk,bz.2.1,hl,bz.2.2.1,hm,bz.2.2.2,_,_,hf.sub (kp [26,25,4,0,1,27] O),hw,ef,eg,(BG _),E⟩
  have E:=BV cm E
  refine BB O (λaa ww hf hw=>?_)
  have eh:=a8.sel [0,0,0,0,1,1,1,1,1,1,1] 1 O
  exact⟨bu,bc,bv,be,bw,bf,bx,bg,_,_,hf.sub (kp [4,0,1] O),hw,eh,cl,E⟩
 rintro aa ww ⟨a2,ar,a3,au,a4,av,a5,aw,b0,dn,hf,hw,Z,bh,E⟩
 refine Ad ?_ hf hw
 clear hf hw ww aa
 rw[Es] at E
 refine AA (AA (AG (.inl O) (AL O KY O (AS A3 Z O (mt (mt (mt (mt (mt (mt (mt (mt (mt (mt mh)))))))))) O Ae O (CH O O O (AD (kp [38,4,0,1] O) (GW (λa w=>∃(ct:Value) (b1:List (List Int)) (cu:Value) (b2:List Int) (cv:Value) (b3:List Av) (cw:Value) (b4:List Az) (b5:List Int),IV B b0 dn (119,[]) a w [(4,.pointer (some ⟨b6,0,none⟩)),(0,.pointer (some ⟨u,0,none⟩)),(1,.int .i64 z)] (OS (AN.sl AN.int) 29 ct b1::OS AN.int 3 cu b2::OS BT 50 cv b3::OS An 60 cw b4::Bx u 84 [.string p0_w.b.Name,J,.int .i64 p0_w.b.Cells,K,M,Q,U,V,W,X,.int .i64 p0_w.b.Err,A,C,D,F,G,.int .i64 p0_w.s.Hour,ct,t,c,d,g,cu,cv,j,cw]::OS AN.int 3 t b5::OS An 60 c p0_w.s.Queue::OS A4 69 d p0_w.s.Gates::OS AN.int 3 g p0_w.s.In::OS AN.int 3 j p0_w.peaks::Bx b6 56 [.string k.Name,.int .i64 k.Kind,.int .i64 k.Office,.int .i64 k.Cap,bo,bp,.int .i64 k.Num,.int .i64 k.Den,.int .i64 k.Down,.int .i64 k.Delay,.int .i64 k.Floor,bq]::L) λ_ _=>C0 N p0_w z k b1 b2 b3 b4 b5=some r) ?_ ?_)))))))
 ·refine AW O (λcx=>?_) (λcx=>?_)
  ·have E:=BU cx E
   refine AA (Bn (.inr ⟨mo,by kernel_rfl⟩) Z (Cj (vs:=[.string k.Name,.int .i64 k.Kind,.int .i64 k.Office,.int .i64 k.Cap,bo,bp,.int .i64 k.Num,.int .i64 k.Den,.int .i64 k.Down,.int .i64 k.Delay,.int .i64 k.Floor,bq]) BZ Z O (mt (mt (mt (mt (mt (mt (mt (mt (mt (mt mh)))))))))) O O JZ O O (AB O O (CI O O (AL O JQ O (AS BZ Z O (mt (mt (mt (mt mh)))) O BY O (AB O O ?_)))))))
   obtain⟨le,ei,E⟩:=bd E
   refine A5 Z (mt (mt (mt (mt (mt (mt (mt (mt (mt mh))))))))) O O BP ei O λlf ej=>?_
   obtain⟨lg,ek,E⟩:=bd E
   have hn:=Z.epAt (mt (mt (mt (mt (mt (mt (mt (mt (mt mh))))))))) ek El.id ej
   refine Af BZ (λ_ x=>x) O hn Ae O λho=>AB O O (CI O O (AL O CV O (AL O JS O (AS BZ Z O (mt (mt (mt (mt mh)))) O BY O (AB O O ?_)))))
   obtain⟨lh,el,E⟩:=bd E
   refine A5 Z (mt (mt (mt (mt (mt mh))))) O O BP el O λli em=>?_
   obtain⟨lj,en,E⟩:=bd E
   have hp:=Z.epAt (mt (mt (mt (mt (mt mh))))) en El.id em
   refine Af BZ (λ_ x=>x) O hp Ae O λhq=>?_
   have bs:=ai.trans (aj.trans (ch.trans (ci.trans (br.trans (ba.trans (cj.trans (a1.trans bh)))))))
   have ht:=fu.mono' bs
   have hu:=fv.mono' bs
   have hv:=fw.mono' bs
   obtain⟨ah,eo,E⟩:=bd E
   refine Hh (v:= .tuple #[.int .i64 ah.1,.int .i64 ah.2]) (Ψ:=AI ah.1∧AI ah.2) O O O aT O (λh' o=>(OH (St.all h') (Br.mk (x:=k) kf kg kh ki (ht.mono' (o.all Z.1)) (hu.mono' (o.all Z.1)) kj kk d0 d1 kl (hv.mono' (o.all Z.1))) ho hq eo).mono λ_ _ _ _ p=>⟨p.1,⟨p.2.1,p.2.2.1⟩⟩) λhx=>?_
   obtain⟨hy,hz⟩:=hx
   refine AB O O (CJ O O O (CJ O O O (AF O O (AF O O (BK (kp [8,7,4,0,1] O) λll bt dp=>AA (Am (AJ 7 (AB O O (CI O O (AL O CV O (AL O JS O (AS A3 bt O (mt (mt (mt (mt mh)))) O BY O (AB O O ?_)))))))))))))
   obtain⟨lm,ep,E⟩:=bd E
   refine A5 bt (mt (mt (mt (mt (mt mh))))) O O BP ep O λlo eq=>AE ?_
   obtain⟨h0,er,E⟩:=bd E
   refine Ef (r:=AN.int) (l:=p0_w.s.Rem) (i:=z) (x:=h0) O O (⟨_,O,O,(iq (n:=0) O)⟩:Rd _ _ AN.int _ 0) eq er LG.id Ae (λ_=>rfl) bt (.tail (.tail (.tail (.tail (.tail .head))))) λlp ay dq=>AX (kp [8,7,4,0,1] O) (AA (AA (Bn (.inl O) ay (AB O O (CI O O (AL O CV O (AL O D3 O (AS BZ ay O (mt (mt (mt (mt mh)))) O G3 O (AB O O ?_)))))))))
   obtain⟨lq,es,E⟩:=bd E
   refine A5 ay mh O O E8 es O λlr et=>?_
   obtain⟨ls,eu,E⟩:=bd E
   have h3:=ay.epAt mh eu El.id et
   refine Ah BZ (λ_ x=>x) O h3 BY O λlt h4=>?_
   obtain⟨lu,ev,E⟩:=bd E
   refine CM O O O Mj O (λh' o=>Ea (St.all h') (h4.mono' (o.all ay.1)) ev) λh5=>?_
   have lv:=h5
   refine AB O O (Hr O O O (BK (kp [76,8,7,4,0,1] O) λdr a9 ds=>GW (λa w=>∃(bi:List Int),IV B b0 dr (119,[]) a w [(7,.int .i64 ah.1),(4,.pointer (some ⟨b6,0,none⟩)),(0,.pointer (some ⟨u,0,none⟩)),(1,.int .i64 z)] (OS (AN.sl AN.int) 29 a2 ar::OS AN.int 3 a3 au::OS BT 50 a4 av::OS An 60 a5 aw::Bx u 84 [.string p0_w.b.Name,J,.int .i64 p0_w.b.Cells,K,M,Q,U,V,W,X,.int .i64 p0_w.b.Err,A,C,D,F,G,.int .i64 p0_w.s.Hour,a2,t,c,d,g,a3,a4,j,a5]::OS AN.int 3 t bi::OS An 60 c p0_w.s.Queue::OS A4 69 d p0_w.s.Gates::OS AN.int 3 g p0_w.s.In::OS AN.int 3 j p0_w.peaks::Bx b6 56 [.string k.Name,.int .i64 k.Kind,.int .i64 k.Office,.int .i64 k.Cap,bo,bp,.int .i64 k.Num,.int .i64 k.Den,.int .i64 k.Down,.int .i64 k.Delay,.int .i64 k.Floor,bq]::L) λ_ _=>Er N p0_w z k ar au av aw ah (C0 N p0_w z k) bi=some r) ?_ ?_))
   ·refine AW O (λcy=>?_) (λcy=>?_)
    ·have E:=BU cy E
     refine Am (AJ 8 (AB O O (CI O O (AL O CV O (AL O JS O (AS A3 a9 O (mt (mt (mt (mt mh)))) O BY O (AB O O (AB O O ?_))))))))
     obtain⟨lw,ew,E⟩:=bd E
     refine A5 a9 (mt (mt (mt (mt (mt mh))))) O O BP ew O λlx ey=>AE ?_
     obtain⟨h6,ez,E⟩:=bd E
     refine Ef (r:=AN.int) (l:=(upd p0_w.s.Rem z 0)) (i:=z) (x:=h6) O O (⟨_,O,O,hz⟩:Rd _ _ AN.int _ ah.2) ey ez LG.id Ae (λ_=>rfl) a9 (.tail (.tail (.tail (.tail (.tail .head))))) λly e0 h8=>AX (kp [7,4,0,1] O) (WF.nil (λaa ww hf hw=>?_))
     exact⟨(upd (upd p0_w.s.Rem z 0) z ah.2),_,_,hf.sub (kp [7,4,0,1] O),hw,e0,h8,E⟩
    have E:=BV cy E
    refine AT (WF.nil (λaa ww hf hw=>?_))
    exact⟨(upd p0_w.s.Rem z 0),_,_,hf.sub (kp [7,4,0,1] O),hw,a9,(B8.refl b0 dr),E⟩
   rintro aa ww ⟨bi,dt,du,hf,hw,I,dv,E⟩
   refine Ad ?_ hf hw
   clear hf hw ww aa
   rw[Er] at E
   obtain⟨a6,e1,E⟩:=bd E
   refine Mk (m:=[(7,.int .i64 ah.1),(4,.pointer (some ⟨b6,0,none⟩)),(0,.pointer (some ⟨u,0,none⟩)),(1,.int .i64 z)]) 9 (λi v hh=>match i with|0=>v= .pointer (some ⟨u,0,none⟩)|1=>v= .int .i64 z∧AI z|2=>v= .pointer (some ⟨b6,8,none⟩)|3=>v= .int .i64 k.Down∧AI k.Down|4=>v= .pointer (some ⟨b6,9,none⟩)|5=>v= .int .i64 k.Delay∧AI k.Delay|6=>v= .int .i64 ah.1∧AI ah.1|7=>Rd (SN dt du hh) hh (AN.fnr Tryz.prog (λS h vs (x:(List Int))=>∃w0:Value,vs=[w0]∧Sl S h AN.int w0 x) (λS h v (y:((List Int)×(List Int)))=>∃w0 w1:Value,v= .tuple #[w0,w1]∧Sl S h AN.int w0 y.1∧Sl S h AN.int w1 y.2)) v (λx=>AY N a6 x)|8=>Rd (SN dt du hh) hh Ao v (⟨k.Down,k.Delay,(-1),(λx=>AY N a6 x)⟩:AM)|_=>False) [[],[],[],[(2,87)],[],[(4,89)],[],[(6,91)],[(3,88),(5,90),(7,92)]] [(0,85),(1,86),(8,93)] mo (by kernel_rfl) [7,4,0,1] O (by kernel_rfl) (by kernel_rfl) (by kernel_rfl) (kp [7,4,0,1] O) (λi v h1 h2 o1 o2 hr=>?_) ?_ ?_
   ·match i,hr with
     |0,hr=>exact hr
     |1,hr=>exact hr
     |2,hr=>exact hr
     |3,hr=>exact hr
     |4,hr=>exact hr
     |5,hr=>exact hr
     |6,hr=>exact hr
     |7,hr=>exact Rd.mono hr (SN.mono I.1 o1 o2)
     |8,hr=>exact Rd.mono hr (SN.mono I.1 o1 o2)
     |_+9,hr=>exact hr.elim
   ·refine Ax.cons O ?_ ?_
    ·intro mq hh o
     have hsN:=o.st I
     exact AJ 1 (AB O O (AE (AK (BA.refl _) O)))
    refine Ax.cons O ?_ ?_
    ·intro mq hh o
     have hsN:=o.st I
     exact AJ 1 (AB O O (AE (AK (BA.refl _) ⟨O,ap⟩)))
    refine Ax.cons O ?_ ?_
    ·intro mq hh o
     have hsN:=o.st I
     exact AJ 1 (AL O Oa O (AE (AK (BA.refl _) O)))
    refine Ax.cons O ?_ ?_
    ·intro mq hh o
     intro lz h9
     have hsN:=o.st I
     cases h9
     exact AJ 1 (AS A3 hsN O (mt (mt (mt (mt (mt (mt (mt (mt (mt (mt mh)))))))))) O Ae O (AE (AK (BA.refl _) ⟨O,d0⟩)))
    refine Ax.cons O ?_ ?_
    ·intro mq hh o
     have hsN:=o.st I
     exact AJ 1 (AL O QZ O (AE (AK (BA.refl _) O)))
    refine Ax.cons O ?_ ?_
    ·intro mq hh o
     intro l0 ia
     have hsN:=o.st I
     cases ia
     exact AJ 1 (AS A3 hsN O (mt (mt (mt (mt (mt (mt (mt (mt (mt (mt mh)))))))))) O Ae O (AE (AK (BA.refl _) ⟨O,d1⟩)))
    refine Ax.cons O ?_ ?_
    ·intro mq hh o
     have hsN:=o.st I
     exact AJ 1 (AB O O (AE (AK (BA.refl _) ⟨O,hy⟩)))
    refine Ax.cons O ?_ ?_
    ·intro mq hh o
     intro l1 ib
     have hsN:=SN.st I o
     obtain⟨rfl,ic⟩:=ib
     have hsF:=hsN.fz
     refine Cr O O O Ro O (H1 hsF ic e1) λl2 ie ig ih p=>?_
     obtain⟨dw,rfl,ii,e2⟩:=p
     have e3:Rd ie ig (AN.fnr Tryz.prog (λS h vs (x:(List Int))=>∃w0:Value,vs=[w0]∧Sl S h AN.int w0 x) (λS h v (y:((List Int)×(List Int)))=>∃w0 w1:Value,v= .tuple #[w0,w1]∧Sl S h AN.int w0 y.1∧Sl S h AN.int w1 y.2)) (.func (.func 89) #[] #[dw]) (λx=>AY N a6 x):=Jj 89 #[dw] Rm λS' h' s' e' L hs x y vs h1 h2=>by obtain⟨w0,rfl,a0⟩:=h1;exact MH (G8 hs a0 (ii.mono'' s' e') h2)
     have cz:=Fz.done o ih e2
     exact AK cz.1 (Rd.mono e3 cz.2)
    refine Ax.cons O ?_ ?_
    ·intro mq hh o
     intro l3 ij l4 ik il b7
     have hsN:=SN.st I o
     obtain⟨rfl,im⟩:=ij
     obtain⟨rfl,io⟩:=ik
     have b7:Rd _ _ (AN.fnr Tryz.prog (λS h vs (x:(List Int))=>∃w0:Value,vs=[w0]∧Sl S h AN.int w0 x) (λS h v (y:((List Int)×(List Int)))=>∃w0 w1:Value,v= .tuple #[w0,w1]∧Sl S h AN.int w0 y.1∧Sl S h AN.int w1 y.2)) il (λx=>AY N a6 x):=b7
     refine AJ 1 ?_
     obtain⟨e4,e5,rfl,kt,ku⟩:=b7.fnr
     exact HX (cs:=[.int .i64 k.Down,.int .i64 k.Delay,.int .i64 (-1),(.func (.func e4) #[] e5)]) Ni O O O (AE (AK (BA.refl _) (Ao.mk (x:=(⟨k.Down,k.Delay,(-1),(λx=>AY N a6 x)⟩:AM)) im io (iq (n:=(-1)) O) b7)))
    exact trivial
   intro l5 c0 l6 ip l7 ir it c1
   have e6:=SN.st I c0
   cases ip
   obtain⟨rfl,iu⟩:=ir
   have c1:Rd _ _ Ao it (⟨k.Down,k.Delay,(-1),(λx=>AY N a6 x)⟩:AM):=c1
   have e7:=e6.sel [4,0,3,3,3,3,0,0,1,0,0] 0 O
   have ab:=ch.trans (ci.trans (br.trans (ba.trans (cj.trans (a1.trans (bh.trans (dp.trans (dq.trans (ds.trans (dv.trans (SN.ext I.1 c0)))))))))))
   have iv:=c9.mono' ab
   have iw:=da.mono' ab
   have iy:=db.mono' ab
   have iz:=dc.mono' ab
   have i0:=dd.mono' ab
   have i1:=de.mono' ab
   have i2:=df.mono' ab
   have i3:=dg.mono' ab
   have i4:=dh.mono' ab
   have i5:=di.mono' ab
   have i6:=dj.mono' ab
   have i7:=dk.mono' ab
   have i8:=dl.mono' ab
   obtain⟨b8,e8,E⟩:=bd E
   refine Cr O O O Vk O (Il (p0_w:=(⟨p0_w.b,p0_w.in_,(⟨p0_w.s.Hour,ar,bi,p0_w.s.Queue,p0_w.s.Gates,p0_w.s.In,au⟩:Al),av,p0_w.peaks,aw⟩:Ai)) e7 af iv ag iw iy iz i0 i1 i2 i3 ad i4 i5 i6 i7 i8 ae iu c1 e8) λl8 l9 ma i9 p=>?_
   obtain⟨ja,jb,jc,jd,rfl,fa⟩:=p
   refine AX (kp [4,0,1] O) (WF.nil (λaa ww hf hw=>?_))
   have fb:=fa.sel [1,5,5,6,0,0,0,0,0,0,0] 0 O
   have fc:=dp.trans (dq.trans (ds.trans (dv.trans ((SN.ext I.1 c0).trans i9))))
   exact⟨ja,b8.1,jb,b8.2.1,jc,b8.2.2.1,jd,b8.2.2.2,bi,_,_,hf.sub (kp [4,0,1] O),hw,fb,fc,E⟩
  have E:=BV cx E
  refine AT (WF.nil (λaa ww hf hw=>?_))
  exact⟨a2,ar,a3,au,a4,av,a5,aw,p0_w.s.Rem,_,_,hf.sub (kp [4,0,1] O),hw,Z,(B8.refl b0 dn),E⟩
 rintro aa ww ⟨ct,b1,cu,b2,cv,b3,cw,b4,b5,dx,mb,hf,hw,aq,c2,E⟩
 refine Ad ?_ hf hw
 clear hf hw ww aa
 rw[C0] at E
 refine AA (Bn (.inr ⟨mo,by kernel_rfl⟩) aq (AB O O (CI O O (AL O CV O (AL O D3 O (AS BZ aq O (mt (mt (mt (mt mh)))) O G3 O (AB O O ?_)))))))
 obtain⟨mc,fd,E⟩:=bd E
 refine A5 aq mh O O E8 fd O λmd fe=>?_
 obtain⟨me,ff,E⟩:=bd E
 have je:=aq.epAt mh ff El.id fe
 refine Ah BZ (λ_ x=>x) O je BY O λmf jf=>?_
 obtain⟨c3,fg,E⟩:=bd E
 refine CM O O O Mj O (λh' o=>Ea (St.all h') (jf.mono' (o.all aq.1)) fg) λjg=>?_
 have mg:=jg
 refine AL O TI O (AS BZ aq O (mt (mt (mt (mt (mt (mt (mt (mt (mt (mt mh)))))))))) O Ae O (Dg O O O (AF O O (BK (kp [9,4,0,1] O) λdy H c4=>AA (AG (.inl O) (AB O O (CE O O O (AD (kp [108,9,4,0,1] O) (AW O (λc5=>?_) (λc5=>?_))))))))))
 ·have E:=BU c5 E
  obtain⟨a7,fh,E⟩:=bd E
  refine Mk (m:=[(9,.int .i64 (BD (c3-k.Cap))),(4,.pointer (some ⟨b6,0,none⟩)),(0,.pointer (some ⟨u,0,none⟩)),(1,.int .i64 z)]) 9 (λi v hh=>match i with|0=>v= .pointer (some ⟨u,0,none⟩)|1=>v= .int .i64 z∧AI z|2=>v= .pointer (some ⟨b6,8,none⟩)|3=>v= .int .i64 k.Down∧AI k.Down|4=>v= .pointer (some ⟨b6,9,none⟩)|5=>v= .int .i64 k.Delay∧AI k.Delay|6=>v= .int .i64 (BD (c3-k.Cap))∧AI (BD (c3-k.Cap))|7=>Rd (SN dx dy hh) hh (AN.fnr Tryz.prog (λS h vs (x:(List Int))=>∃w0:Value,vs=[w0]∧Sl S h AN.int w0 x) (λS h v (y:((List Int)×(List Int)))=>∃w0 w1:Value,v= .tuple #[w0,w1]∧Sl S h AN.int w0 y.1∧Sl S h AN.int w1 y.2)) v (λx=>AY N a7 x)|8=>Rd (SN dx dy hh) hh Ao v (⟨k.Down,k.Delay,(-2),(λx=>AY N a7 x)⟩:AM)|_=>False) [[],[],[],[(2,111)],[],[(4,113)],[],[(6,115)],[(3,112),(5,114),(7,116)]] [(0,109),(1,110),(8,117)] mo (by kernel_rfl) [9,4,0,1] O (by kernel_rfl) (by kernel_rfl) (by kernel_rfl) (kp [9,4,0,1] O) (λi v h1 h2 o1 o2 hr=>?_) ?_ ?_
  ·match i,hr with
    |0,hr=>exact hr
    |1,hr=>exact hr
    |2,hr=>exact hr
    |3,hr=>exact hr
    |4,hr=>exact hr
    |5,hr=>exact hr
    |6,hr=>exact hr
    |7,hr=>exact Rd.mono hr (SN.mono H.1 o1 o2)
    |8,hr=>exact Rd.mono hr (SN.mono H.1 o1 o2)
    |_+9,hr=>exact hr.elim
  ·refine Ax.cons O ?_ ?_
   ·intro mq hh o
    have hsN:=o.st H
    exact AJ 1 (AB O O (AE (AK (BA.refl _) O)))
   refine Ax.cons O ?_ ?_
   ·intro mq hh o
    have hsN:=o.st H
    exact AJ 1 (AB O O (AE (AK (BA.refl _) ⟨O,ap⟩)))
   refine Ax.cons O ?_ ?_
   ·intro mq hh o
    have hsN:=o.st H
    exact AJ 1 (AL O Oa O (AE (AK (BA.refl _) O)))
   refine Ax.cons O ?_ ?_
   ·intro mq hh o
    intro mi jh
    have hsN:=o.st H
    cases jh
    exact AJ 1 (AS A3 hsN O (mt (mt (mt (mt (mt (mt (mt (mt (mt (mt mh)))))))))) O Ae O (AE (AK (BA.refl _) ⟨O,d0⟩)))
   refine Ax.cons O ?_ ?_
   ·intro mq hh o
    have hsN:=o.st H
    exact AJ 1 (AL O QZ O (AE (AK (BA.refl _) O)))
   refine Ax.cons O ?_ ?_
   ·intro mq hh o
    intro mj ji
    have hsN:=o.st H
    cases ji
    exact AJ 1 (AS A3 hsN O (mt (mt (mt (mt (mt (mt (mt (mt (mt (mt mh)))))))))) O Ae O (AE (AK (BA.refl _) ⟨O,d1⟩)))
   refine Ax.cons O ?_ ?_
   ·intro mq hh o
    have hsN:=o.st H
    exact AJ 1 (AB O O (AE (AK (BA.refl _) ⟨O,(BG _)⟩)))
   refine Ax.cons O ?_ ?_
   ·intro mq hh o
    intro ml jj
    have hsN:=SN.st H o
    obtain⟨rfl,jk⟩:=jj
    have hsF:=hsN.fz
    refine Cr O O O Ro O (H1 hsF jk fh) λmm jl jm jn p=>?_
    obtain⟨dz,rfl,jo,fi⟩:=p
    have fj:Rd jl jm (AN.fnr Tryz.prog (λS h vs (x:(List Int))=>∃w0:Value,vs=[w0]∧Sl S h AN.int w0 x) (λS h v (y:((List Int)×(List Int)))=>∃w0 w1:Value,v= .tuple #[w0,w1]∧Sl S h AN.int w0 y.1∧Sl S h AN.int w1 y.2)) (.func (.func 89) #[] #[dz]) (λx=>AY N a7 x):=Jj 89 #[dz] Rm λS' h' s' e' L hs x y vs h1 h2=>by obtain⟨w0,rfl,a0⟩:=h1;exact MH (G8 hs a0 (jo.mono'' s' e') h2)
    have c6:=Fz.done o jn fi
    exact AK c6.1 (Rd.mono fj c6.2)
   refine Ax.cons O ?_ ?_
   ·intro mq hh o
    intro mn jp mp jq jr b9
    have hsN:=SN.st H o
    obtain⟨rfl,js⟩:=jp
    obtain⟨rfl,jt⟩:=jq
    have b9:Rd _ _ (AN.fnr Tryz.prog (λS h vs (x:(List Int))=>∃w0:Value,vs=[w0]∧Sl S h AN.int w0 x) (λS h v (y:((List Int)×(List Int)))=>∃w0 w1:Value,v= .tuple #[w0,w1]∧Sl S h AN.int w0 y.1∧Sl S h AN.int w1 y.2)) jr (λx=>AY N a7 x):=b9
    refine AJ 1 ?_
    obtain⟨fk,fl,rfl,kv,kw⟩:=b9.fnr
    exact HX (cs:=[.int .i64 k.Down,.int .i64 k.Delay,.int .i64 (-2),(.func (.func fk) #[] fl)]) Ni O O O (AE (AK (BA.refl _) (Ao.mk (x:=(⟨k.Down,k.Delay,(-2),(λx=>AY N a7 x)⟩:AM)) js jt (iq (n:=(-2)) O) b9)))
   exact trivial
  intro mr c7 ms ju mu jv jw c8
  have fm:=SN.st H c7
  cases ju
  obtain⟨rfl,jx⟩:=jv
  have c8:Rd _ _ Ao jw (⟨k.Down,k.Delay,(-2),(λx=>AY N a7 x)⟩:AM):=c8
  have fn:=fm.sel [4,0,3,3,3,3,0,0,1,0,0] 0 O
  have ac:=ch.trans (ci.trans (br.trans (ba.trans (cj.trans (a1.trans (bh.trans (c2.trans (c4.trans (SN.ext H.1 c7)))))))))
  have jy:=c9.mono' ac
  have jz:=da.mono' ac
  have j0:=db.mono' ac
  have j1:=dc.mono' ac
  have j2:=dd.mono' ac
  have j3:=de.mono' ac
  have j4:=df.mono' ac
  have j5:=dg.mono' ac
  have j6:=dh.mono' ac
  have j7:=di.mono' ac
  have j8:=dj.mono' ac
  have j9:=dk.mono' ac
  have ka:=dl.mono' ac
  obtain⟨mw,fo,E⟩:=bd E
  refine Cr O O O Vk O (Il (p0_w:=(⟨p0_w.b,p0_w.in_,(⟨p0_w.s.Hour,b1,b5,p0_w.s.Queue,p0_w.s.Gates,p0_w.s.In,b2⟩:Al),b3,p0_w.peaks,b4⟩:Ai)) fn af jy ag jz j0 j1 j2 j3 j4 j5 ad j6 j7 j8 j9 ka ae jx c8 fo) λmx my mz kb p=>?_
  obtain⟨m0,m1,m2,m3,rfl,fp⟩:=p
  refine AX OG (WF.nil (λaa ww hf hw=>?_))
  have fq:=fp.drop (.tail (.tail (.tail (.tail (.tail (.tail (.tail (.tail (.tail (.tail .head))))))))))
  cases E
  have fr:=e9.trans (ai.trans (aj.trans (ch.trans (ci.trans (br.trans (ba.trans (cj.trans (a1.trans (bh.trans (c2.trans (c4.trans ((SN.ext H.1 c7).trans kb))))))))))))
  exact Jn hf O hw Jm O fr ⟨_,_,_,_,_,O,fq⟩
 have E:=BV c5 E
 refine AT (WF.nil (λaa ww hf hw=>?_))
 have fs:=H.sel [4,0,3,3,3,3,0,0,1,0] 1 O
 cases E
 have ft:=e9.trans (ai.trans (aj.trans (ch.trans (ci.trans (br.trans (ba.trans (cj.trans (a1.trans (bh.trans (c2.trans c4))))))))))
 exact Jn hf O hw Jm O ft ⟨_,_,_,_,_,O,fs⟩
theorem Kd (hs:St S L h) {bc:Value}{c:AZ}(dw:Rd S h B0 bc c) {be:Value}{cw:Al}(dx:Rd S h CL be cw) {a0:Value}{d:Ca}(c7:Rd S h FV a0 d) {r:Al×(List Av)×(List Int)}(E:H3 N c cw d=some r):
 CG Tryz.prog 11 #[bc,be,a0] S h (λv S' h'=>∃it iu iv:Value,v= .tuple #[it,iu,iv]∧Rd S' h' CL it r.1∧St S' (OS BT 50 iu r.2.1::OS AN.int 3 iv r.2.2::L) h'):=by
 refine BC (l:=[bc,be,a0]) 53 Tryz.func11 O Tryz.ntmps11 O λB=>?_
 rw[H3] at E
 refine AA (Am (B1 O dw (λe=>by cases e) O hs λq1 S2 h3 lq e5 k6=>?_))
 have k7:=dx.mono e5
 refine B1 O k7 (λe=>by cases e) O lq λq8 S9 qo iw c8 lr=>?_
 have ls:=c7.mono (e5.trans c8)
 refine B1 O ls (λe=>by cases e) O iw λlt ax qp iy c9 lu=>Cg Nw O iy λda cj k c6=>AJ 2 (AF O O (AF O O (AE (AX (kp [6,5,4,3] O) (AA ?_)))))
 obtain⟨g,iz,E⟩:=bd E
 obtain⟨i0,E⟩:=Ly E
 refine Qn (m:=[(6,.pointer (some ⟨da,0,none⟩)),(5,lt),(4,q8),(3,q1)]) [10] [] [(8,[0,1,3,7])] (by kernel_rfl) (λgv X F i v hh=>match i with|0=>Rd ax hh B0 v c|1=>Rd ax hh FV v d|2=>Rd ax hh CL v cw|3=>∃w1 w2 w3 w4 w5 w6:Value,v= .agg #[.int .i64 g.Hour,w1,w2,w3,w4,w5,w6]∧AI g.Hour∧Sl (SX ax cj hh X) hh An w3 g.Queue∧OW ax cj X F [OO AN.int 3 29 w1 g.Own,OS AN.int 3 w2 g.Rem,OS A4 69 w4 g.Gates,OS AN.int 3 w5 g.In,OS AN.int 3 w6 g.Out] hh|4=>Pt ax hh (AN.sl Br) v c.Places|5=>Sl ax hh Br v c.Places|6=>v= .int .i64 (↑c.Places.length:Int)∧AI (↑c.Places.length:Int)|7=>OW ax cj X F [OS AN.int 3 v (List.replicate ((↑c.Places.length:Int):Int).toNat (0:Int))] hh|8=>v= .agg ((gv 0).cells.toList++(gv 1).cells.toList++(gv 3).cells.toList++[(.slice none 0 0:Value)]++[gv 7]++[(.slice none 0 0:Value)]).toArray|9=>∃w0:Nat,v= .pointer (some ⟨w0,0,none⟩)∧OW ax cj X F [Bx w0 84 [.string ByteArray.empty,.slice none 0 0,.int .i64 0,.slice none 0 0,.slice none 0 0,.slice none 0 0,.slice none 0 0,.slice none 0 0,.slice none 0 0,.slice none 0 0,.int .i64 0,.slice none 0 0,.slice none 0 0,.slice none 0 0,.slice none 0 0,.slice none 0 0,.int .i64 0,.slice none 0 0,.slice none 0 0,.slice none 0 0,.slice none 0 0,.slice none 0 0,.slice none 0 0,.slice none 0 0,.slice none 0 0,.slice none 0 0]] hh|_=>False) [[],[],[],[(2,13)],[],[(4,15)],[(5,16)],[(6,17)],[(0,11),(1,12),(3,14),(7,18)],[],[]] [(0,11),(1,12),(3,14),(7,18),(8,19),(9,9)] mo (by kernel_rfl) [6,5,4,3] O (by kernel_rfl) (by kernel_rfl) (by kernel_rfl) O (kp [6,5,4,3] O) (λgv i v h1 h2 X X' F o1 o2 hF u1 u2 hr=>?_) (λgv gv' X F i v h1 hz hr=>?_) ?_ ?_ ?_
 ·match i,hr with
   |0,hr=>exact Rd.mono hr (o2.ext λb hb=>Nat.lt_of_lt_of_le (k.1 b hb) o1.siz)
   |1,hr=>exact Rd.mono hr (o2.ext λb hb=>Nat.lt_of_lt_of_le (k.1 b hb) o1.siz)
   |2,hr=>exact Rd.mono hr (o2.ext λb hb=>Nat.lt_of_lt_of_le (k.1 b hb) o1.siz)
   |3,hr=>obtain⟨w1,w2,w3,w4,w5,w6,ev,k0,k3,q⟩:=hr;exact⟨w1,w2,w3,w4,w5,w6,ev,k0,Sl.mono' k3 (SX.mono k.1 o1 o2 u1 u2),OW.mono k.1 o1 o2 hF u1 u2 q⟩
   |4,hr=>exact MB.mono hr (o2.ext λb hb=>Nat.lt_of_lt_of_le (k.1 b hb) o1.siz)
   |5,hr=>exact Sl.mono' hr (o2.ext λb hb=>Nat.lt_of_lt_of_le (k.1 b hb) o1.siz)
   |6,hr=>exact hr
   |7,hr=>exact OW.mono k.1 o1 o2 hF u1 u2 hr
   |8,hr=>exact hr
   |9,hr=>obtain⟨w0,ev,q⟩:=hr;exact⟨w0,ev,OW.mono k.1 o1 o2 hF u1 u2 q⟩
   |_+10,hr=>exact hr.elim
 ·match i,hr with
   |0,hr=>exact hr
   |1,hr=>exact hr
   |2,hr=>exact hr
   |3,hr=>exact hr
   |4,hr=>exact hr
   |5,hr=>exact hr
   |6,hr=>exact hr
   |7,hr=>exact hr
   |8,hr=>rw[hz _ List.mem_cons_self O 0 (by decide),hz _ List.mem_cons_self O 1 (by decide),hz _ List.mem_cons_self O 3 (by decide),hz _ List.mem_cons_self O 7 (by decide)] at hr;exact hr
   |9,hr=>exact hr
   |_+10,hr=>exact hr.elim
 ·exact trivial
 ·refine B5.cons O O ?_ ?_
  ·intro gv X mq hh o hX
   have hsN:=o.st k
   refine AJ 1 ?_
   have i1:=k6.mono (c8.trans (c9.trans (c6.trans (o.ext k.1))))
   exact Bw A3 hsN.1 O i1 Gp (λe=>by cases e) O λl2 i2=>AE (AK (BA.refl _) i2)
  refine B5.cons O O ?_ ?_
  ·intro gv X mq hh o hX
   have hsN:=o.st k
   refine AJ 1 ?_
   have i3:=lu.mono (c6.trans (o.ext k.1))
   exact Bw A3 hsN.1 O i3 Sh (λe=>by cases e) O λl3 i4=>AE (AK (BA.refl _) i4)
  refine B5.cons O O ?_ ?_
  ·intro gv X mq hh o hX
   have hsN:=o.st k
   refine AJ 1 ?_
   have i5:=lr.mono (c9.trans (c6.trans (o.ext k.1)))
   exact Bw A3 hsN.1 O i5 Gn (λe=>by cases e) O λl4 i6=>AE (AK (BA.refl _) i6)
  refine L9 O O ?_ ?_
  ·intro gv X mq hh o hX
   have hsN:=SX.fz (X:=X) k o
   intro i7 a1
   obtain⟨lv,_,_,a1⟩:=a1
   have a1:=Rd.mono (S':=(SX ax cj hh X)) a1 ⟨λb hb=>(SX.ext k.1 o hX).sub b hb,λ_ _=>rfl,Nat.le_refl _⟩
   have a1:Rd _ _ CL i7 cw:=a1
   refine Cr O O O bT O (OD hsN a1 iz) λl5 l6 l7 i8 p=>?_
   obtain⟨l8,l9,ma,mb,mc,md,rfl,i9,ja,gp⟩:=p
   have hsG:=gp.pick (.tail (.tail (.tail (.tail (.tail .head)))))
   obtain⟨F185,hF186,jb,jc,jd⟩:=OW.done k.1 o hX i8 hsG
   exact AK jb ⟨F185,hF186,⟨_,_,_,_,_,_,O,i9,Sl.mono' ja jc,jd⟩⟩
  refine B5.cons O O ?_ ?_
  ·intro gv X mq hh o hX
   have hsN:=o.st k
   refine AJ 1 ?_
   have je:=k6.mono (c8.trans (c9.trans (c6.trans (o.ext k.1))))
   exact Ac O je BS DK O λme jf=>AE (AK (BA.refl _) jf)
  refine B5.cons O O ?_ ?_
  ·intro gv X mq hh o hX
   have hsN:=o.st k
   intro jg bt
   obtain⟨lw,_,_,bt⟩:=bt
   have bt:Pt _ _ (AN.sl Br) jg c.Places:=bt
   exact AJ 1 (Ah A3 hsN.1 O bt F9 O λmf jh=>AE (AK (BA.refl _) jh))
  refine B5.cons O O ?_ ?_
  ·intro gv X mq hh o hX
   have hsN:=o.st k
   intro ji bu
   obtain⟨lx,_,_,bu⟩:=bu
   have bu:Sl _ _ Br ji c.Places:=bu
   exact AJ 1 (Ag O bu FA O λjj=>AE (AK (BA.refl _) ⟨O,(JE jj)⟩))
  refine L9 O O ?_ ?_
  ·intro gv X mq hh o hX
   have hsN:=SX.fz (X:=X) k o
   intro mg db
   obtain⟨ly,_,_,db⟩:=db
   obtain⟨rfl,mi⟩:=db
   refine Iq (r:=AN.int) (zx:=0) E4 O ⟨O,by unfold AI;omega⟩ O O i0 O O hsN λmj ml gq jk=>?_
   have hsG:=gq.pick (.tail .head)
   obtain⟨F210,hF211,jl,mm,jm⟩:=OW.done k.1 o hX jk hsG
   exact AK jl ⟨F210,hF211,jm⟩
  refine B5.cons O O ?_ ?_
  ·intro gv X mq hh o hX
   have hsN:=o.st k
   intro jn bv jo bw mn dc mp dd
   obtain⟨gr,_,_,bv⟩:=bv
   have bv:Rd _ _ B0 jn c:=bv
   obtain⟨gs,_,_,bw⟩:=bw
   have bw:Rd _ _ FV jo d:=bw
   obtain⟨gt,_,_,dc⟩:=dc
   obtain⟨mr,ms,mu,mw,mx,my,rfl,mz,jp,bx⟩:=dc
   obtain⟨gu,dy,rfl,m0⟩:=OW.oolen bx mh
   obtain⟨gw,dz,rfl,m1⟩:=OW.oslen bx (mt mh)
   obtain⟨gx,d0,rfl,m2⟩:=jp.len
   obtain⟨gy,d1,rfl,m3⟩:=OW.oslen bx (mt (mt mh))
   obtain⟨gz,d2,rfl,m4⟩:=OW.oslen bx (mt (mt (mt mh)))
   obtain⟨g0,d3,rfl,m5⟩:=OW.oslen bx (mt (mt (mt (mt mh))))
   obtain⟨g1,_,_,dd⟩:=dd
   obtain⟨g2,d4,rfl,m6⟩:=OW.oslen dd mh
   refine AJ 1 ?_
   obtain⟨m7,m8,m9,na,nb,nc,nd,ne,rfl,nf,jq,ng,jr,js,jt,ju,jv,jw,jx,nh⟩:=B0.ex bv
   obtain⟨ni,nj,nk,nl,nm,rfl,jy,jz,j0,j1,j2⟩:=FV.ex bw
   obtain⟨g3,d5,rfl,nn⟩:=(jq).len
   obtain⟨g4,d6,rfl,no⟩:=(jr).len
   obtain⟨g5,d7,rfl,np⟩:=(js).len
   obtain⟨g6,d8,rfl,nq⟩:=(jt).len
   obtain⟨g7,d9,rfl,nr⟩:=(ju).len
   obtain⟨g8,ea,rfl,ns⟩:=(jv).len
   obtain⟨g9,eb,rfl,nt⟩:=(jw).len
   obtain⟨ha,ec,rfl,nu⟩:=(jx).len
   obtain⟨hc,ed,rfl,nv⟩:=(jy).len
   obtain⟨hd,ee,rfl,nw⟩:=(jz).len
   obtain⟨he,ef,rfl,nx⟩:=(j0).len
   obtain⟨hg,eg,rfl,ny⟩:=(j1).len
   obtain⟨hi,eh,rfl,nz⟩:=(j2).len
   exact HX (cs:=[.string c.Name,(.slice g3 c.Owners.length d5),.int .i64 c.Cells,(.slice g4 c.Places.length d6),(.slice g5 c.Links.length d7),(.slice g6 c.Towns.length d8),(.slice g7 c.Gauges.length d9),(.slice g8 c.Roads.length ea),(.slice g9 c.Shelters.length eb),(.slice ha c.Room.length ec),.int .i64 c.Err,(.slice hc d.Rain.length ed),(.slice hd d.Faults.length ee),(.slice he d.Cmds.length ef),(.slice hg d.Takes.length eg),(.slice hi d.Swaps.length eh),.int .i64 g.Hour,(.slice gu g.Own.length dy),(.slice gw g.Rem.length dz),(.slice gx g.Queue.length d0),(.slice gy g.Gates.length d1),(.slice gz g.In.length d2),(.slice g0 g.Out.length d3),.slice none 0 0,(.slice g2 (List.replicate ((↑c.Places.length:Int):Int).toNat (0:Int)).length d4),.slice none 0 0]) ZT O O O (AE (AK (BA.refl _) (by rw[←gr,←gs,←gt,←g1];rfl)))
  refine L9 O O ?_ ?_
  ·intro gv X mq hh o hX
   have hsN:=SX.fz (X:=X) k o
   refine Cg ZE O hsN λn0 n2 hj j3=>?_
   have hsG:=hj.pick (.tail .head)
   obtain⟨F332,hF333,j4,n3,j5⟩:=OW.done k.1 o hX j3 hsG
   exact AK j4 ⟨F332,hF333,⟨_,O,j5⟩⟩
  exact B5.skip (by kernel_rfl) (trivial)
 intro ej de lz bz a2 ck j6 a3 j7 a4 n4 df n5 dg ek dh n6 di
 obtain⟨hk,a3⟩:=a3
 obtain⟨hl,a4⟩:=a4
 obtain⟨hm,df⟩:=df
 obtain⟨hn,dg⟩:=dg
 obtain⟨l0,dh⟩:=dh
 obtain⟨l1,di⟩:=di
 obtain⟨n7,n8,n9,oa,ob,oc,rfl,b0,el,j8⟩:=df
 obtain⟨b1,rfl,j9⟩:=di
 have ae:=(Sa.cons (Sa.cons (Sa.cons (Sa.nil k bz a2) ck (j:=3) O j8) ck (j:=7) O dg) ck (j:=9) O j9).st
 simp only[List.cons_append,List.nil_append] at ae
 have a3:=Rd.mono (S':=(SX ax cj ej (UX de))) a3 ⟨λb hb=>(SX.ext k.1 bz (WG a2)).sub b hb,λ_ _=>rfl,Nat.le_refl _⟩
 have a3:Rd _ _ B0 j6 c:=a3
 have a4:=Rd.mono (S':=(SX ax cj ej (UX de))) a4 ⟨λb hb=>(SX.ext k.1 bz (WG a2)).sub b hb,λ_ _=>rfl,Nat.le_refl _⟩
 have a4:Rd _ _ FV j7 d:=a4
 obtain⟨od,oe,og,oh,oi,oj,ok,ol,rfl,b2,em,b3,en,eo,ep,eq,er,es,et,b4⟩:=B0.ex a3
 obtain⟨af,G,rfl,om⟩:=(em).len
 obtain⟨ag,H,rfl,oo⟩:=(en).len
 obtain⟨ah,I,rfl,op⟩:=(eo).len
 obtain⟨ai,J,rfl,oq⟩:=(ep).len
 obtain⟨aj,K,rfl,os⟩:=(eq).len
 obtain⟨ak,M,rfl,ot⟩:=(er).len
 obtain⟨am,Q,rfl,ou⟩:=(es).len
 obtain⟨an,U,rfl,ov⟩:=(et).len
 obtain⟨ox,oy,oz,o0,o3,rfl,eu,ew,ey,ez,e0⟩:=FV.ex a4
 obtain⟨ao,V,rfl,o4⟩:=(eu).len
 obtain⟨ap,W,rfl,o5⟩:=(ew).len
 obtain⟨aq,Y,rfl,o6⟩:=(ey).len
 obtain⟨ar,Z,rfl,o7⟩:=(ez).len
 obtain⟨au,ab,rfl,o8⟩:=(e0).len
 obtain⟨cl,bf,rfl,o9⟩:=ae.oolen (mt (mt mh))
 obtain⟨bg,ay,rfl,pa⟩:=ae.oslen (mt (mt (mt mh)))
 obtain⟨cm,bh,rfl,pb⟩:=(el).len
 obtain⟨cn,bi,rfl,pc⟩:=ae.oslen (mt (mt (mt (mt mh))))
 obtain⟨co,bj,rfl,pd⟩:=ae.oslen (mt (mt (mt (mt (mt mh)))))
 obtain⟨bk,az,rfl,pe⟩:=ae.oslen (mt (mt (mt (mt (mt (mt mh))))))
 obtain⟨cp,bl,rfl,pf⟩:=ae.oslen (mt mh)
 obtain rfl:Value.agg #[.string c.Name,(.slice af c.Owners.length G),.int .i64 c.Cells,(.slice ag c.Places.length H),(.slice ah c.Links.length I),(.slice ai c.Towns.length J),(.slice aj c.Gauges.length K),(.slice ak c.Roads.length M),(.slice am c.Shelters.length Q),(.slice an c.Room.length U),.int .i64 c.Err,(.slice ao d.Rain.length V),(.slice ap d.Faults.length W),(.slice aq d.Cmds.length Y),(.slice ar d.Takes.length Z),(.slice au d.Swaps.length ab),.int .i64 g.Hour,(.slice cl g.Own.length bf),(.slice bg g.Rem.length ay),(.slice cm g.Queue.length bh),(.slice cn g.Gates.length bi),(.slice co g.In.length bj),(.slice bk g.Out.length az),.slice none 0 0,(.slice cp (List.replicate ((↑c.Places.length:Int):Int).toNat (0:Int)).length bl),.slice none 0 0]=ek:=((by rw[dh,←hk,←hl,←hm,←hn];rfl:ek=Value.agg #[.string c.Name,(.slice af c.Owners.length G),.int .i64 c.Cells,(.slice ag c.Places.length H),(.slice ah c.Links.length I),(.slice ai c.Towns.length J),(.slice aj c.Gauges.length K),(.slice ak c.Roads.length M),(.slice am c.Shelters.length Q),(.slice an c.Room.length U),.int .i64 c.Err,(.slice ao d.Rain.length V),(.slice ap d.Faults.length W),(.slice aq d.Cmds.length Y),(.slice ar d.Takes.length Z),(.slice au d.Swaps.length ab),.int .i64 g.Hour,(.slice cl g.Own.length bf),(.slice bg g.Rem.length ay),(.slice cm g.Queue.length bh),(.slice cn g.Gates.length bi),(.slice co g.In.length bj),(.slice bk g.Out.length az),.slice none 0 0,(.slice cp (List.replicate ((↑c.Places.length:Int):Int).toNat (0:Int)).length bl),.slice none 0 0])).symm
 refine DD (vs:=[.string c.Name,(.slice af c.Owners.length G),.int .i64 c.Cells,(.slice ag c.Places.length H),(.slice ah c.Links.length I),(.slice ai c.Towns.length J),(.slice aj c.Gauges.length K),(.slice ak c.Roads.length M),(.slice am c.Shelters.length Q),(.slice an c.Room.length U),.int .i64 c.Err,(.slice ao d.Rain.length V),(.slice ap d.Faults.length W),(.slice aq d.Cmds.length Y),(.slice ar d.Takes.length Z),(.slice au d.Swaps.length ab),.int .i64 g.Hour,(.slice cl g.Own.length bf),(.slice bg g.Rem.length ay),(.slice cm g.Queue.length bh),(.slice cn g.Gates.length bi),(.slice co g.In.length bj),(.slice bk g.Out.length az),.slice none 0 0,(.slice cp (List.replicate ((↑c.Places.length:Int):Int).toNat (0:Int)).length bl),.slice none 0 0]) O O O O ZP O ae .head O λpg ho u=>AX (kp [9,6,3] O) (AA (Am ?_))
 have hp:=ho.nil BT 50
 have hq:=hp.nil An 60
 have ht:=hq.sel [2,3,3,3,3,3,1,1,0,0] 0 O
 have e1:=em.mono' u
 have e2:=en.mono' u
 have e3:=eo.mono' u
 have e4:=ep.mono' u
 have e6:=eq.mono' u
 have e7:=er.mono' u
 have e8:=es.mono' u
 have e9:=et.mono' u
 have fb:=eu.mono' u
 have fc:=ew.mono' u
 have fd:=ey.mono' u
 have fe:=ez.mono' u
 have ff:=e0.mono' u
 have fg:=el.mono' u
 obtain⟨dj,hu,E⟩:=bd E
 refine Cr O O O bS O (MX (p0_w:=(⟨c,d,g,([]:List Av),(List.replicate ((↑c.Places.length:Int):Int).toNat (0:Int)),([]:List Az)⟩:Ai)) ht b2 e1 b3 e2 e3 e4 e6 e7 e8 e9 b4 fb fc fd fe ff b0 fg hu) λph pi pj y p=>?_
 obtain⟨pk,rfl,hv⟩:=p
 refine AX (kp [9,6,3] O) (AA (Am ?_))
 have fh:=e1.mono' y
 have fi:=e2.mono' y
 have fj:=e3.mono' y
 have fk:=e4.mono' y
 have fl:=e6.mono' y
 have fm:=e7.mono' y
 have fn:=e8.mono' y
 have fo:=e9.mono' y
 have fp:=fb.mono' y
 have fq:=fc.mono' y
 have fr:=fd.mono' y
 have fs:=fe.mono' y
 have ft:=ff.mono' y
 have fu:=fg.mono' y
 obtain⟨ka,hx,E⟩:=bd E
 refine Cr O O O bR O (MW (p0_w:=(⟨c,d,({ g with Gates:=dj}:Al),([]:List Av),(List.replicate ((↑c.Places.length:Int):Int).toNat (0:Int)),([]:List Az)⟩:Ai)) hv b2 fh b3 fi fj fk fl fm fn fo b4 fp fq fr fs ft b0 fu hx) λpl pm pn z p=>?_
 obtain⟨po,rfl,hy⟩:=p
 refine AX (kp [9,6,3] O) (AA (Am ?_))
 have fv:=fh.mono' z
 have fw:=fi.mono' z
 have fx:=fj.mono' z
 have fy:=fk.mono' z
 have f0:=fl.mono' z
 have f1:=fm.mono' z
 have f2:=fn.mono' z
 have f3:=fo.mono' z
 have f4:=fp.mono' z
 have f5:=fq.mono' z
 have f6:=fr.mono' z
 have f7:=fs.mono' z
 have f8:=ft.mono' z
 have f9:=fu.mono' z
 obtain⟨ac,h0,E⟩:=bd E
 refine Cr O O O bQ O (Mn (p0_w:=(⟨c,d,(⟨g.Hour,ka,g.Rem,g.Queue,dj,g.In,g.Out⟩:Al),([]:List Av),(List.replicate ((↑c.Places.length:Int):Int).toNat (0:Int)),([]:List Az)⟩:Ai)) hy b2 fv b3 fw fx fy f0 f1 f2 f3 b4 f4 f5 f6 f7 f8 b0 f9 h0) λpp pq pr A p=>?_
 obtain⟨ps,a8,kb,rfl,h4⟩:=p
 refine AX (kp [9,6,3] O) (AA (Am ?_))
 have ga:=fv.mono' A
 have gb:=fw.mono' A
 have gc:=fx.mono' A
 have gd:=fy.mono' A
 have ge:=f0.mono' A
 have gf:=f1.mono' A
 have gg:=f2.mono' A
 have gh:=f3.mono' A
 have gi:=f4.mono' A
 have gj:=f5.mono' A
 have gk:=f6.mono' A
 have gl:=f7.mono' A
 have gm:=f8.mono' A
 have kc:=f9.mono' A
 obtain⟨s,h5,E⟩:=bd E
 refine Cr O O O bP O (K2 (p0_w:=(⟨c,d,(⟨g.Hour,ac.1,g.Rem,g.Queue,dj,ac.2.1,g.Out⟩:Al),ac.2.2,(List.replicate ((↑c.Places.length:Int):Int).toNat (0:Int)),([]:List Az)⟩:Ai)) h4 b2 ga b3 gb gc gd ge gf gg gh b4 gi gj gk gl gm b0 kc h5) λpt dk dl C p=>?_
 obtain⟨kd,cx,a9,ba,rfl,dm⟩:=p
 refine AX (kp [9,6,3] O) (AA (AA (AG (.inl O) ?_)))
 have h6:=c8.trans (c9.trans (c6.trans ((SX.ext k.1 bz (WG a2)).trans (u.trans (y.trans (z.trans (A.trans C)))))))
 have ke:=k6.mono h6
 refine Ac O ke BS DK O λpu kf=>Ah A3 dm.1 O kf F9 O λpv kg=>Ag O kg FA O λpw=>AB O O (AD (kp [27,26,9,6] O) (Aj (λa w=>∃(b5:Value) (a5:List (List Int)) (b6:Value) (a6:List Int) (b7:Value) (a7:List Int) (b8:Value) (b9:List Av) (ca:Value) (ad:List Az),IV B dk dl (53,[]) a w [(9,.pointer (some ⟨b1,0,none⟩)),(6,.pointer (some ⟨da,0,none⟩))] (OS (AN.sl AN.int) 29 b5 a5::OS AN.int 3 b6 a6::OS AN.int 3 b7 a7::OS BT 50 b8 b9::OS An 60 ca ad::Bx b1 84 [.string c.Name,(.slice af c.Owners.length G),.int .i64 c.Cells,(.slice ag c.Places.length H),(.slice ah c.Links.length I),(.slice ai c.Towns.length J),(.slice aj c.Gauges.length K),(.slice ak c.Roads.length M),(.slice am c.Shelters.length Q),(.slice an c.Room.length U),.int .i64 c.Err,(.slice ao d.Rain.length V),(.slice ap d.Faults.length W),(.slice aq d.Cmds.length Y),(.slice ar d.Takes.length Z),(.slice au d.Swaps.length ab),.int .i64 g.Hour,b5,b6,cx,a9,a8,b7,b8,ba,ca]::OS An 60 cx s.2.1::OS A4 69 a9 s.2.2.1::OS AN.int 3 a8 ac.2.1::OS AN.int 3 ba s.2.2.2::Bx da 36 [.int .i64 0,.slice none 0 0,.slice none 0 0,.slice none 0 0,.slice none 0 0,.slice none 0 0,.slice none 0 0]::L) λ_ _=>FE N g ac s a5 a6 a7 b9 ad=some r) ?_ ?_))
 ·refine Ay (λn1=>λa w=>∃(cb:Int) (cy:Value) (cc:List (List Int)) (cz:Value) (cd:List Int) (c0:Value) (ce:List Int) (c1:Value) (cf:List Av) (c2:Value) (cg:List Az),IV B dk dl (53,[]) a w [(26,.int .i64 (↑c.Places.length:Int)),(9,.pointer (some ⟨b1,0,none⟩)),(6,.pointer (some ⟨da,0,none⟩)),(27,.int .i64 cb)] (OS (AN.sl AN.int) 29 cy cc::OS AN.int 3 cz cd::OS AN.int 3 c0 ce::OS BT 50 c1 cf::OS An 60 c2 cg::Bx b1 84 [.string c.Name,(.slice af c.Owners.length G),.int .i64 c.Cells,(.slice ag c.Places.length H),(.slice ah c.Links.length I),(.slice ai c.Towns.length J),(.slice aj c.Gauges.length K),(.slice ak c.Roads.length M),(.slice am c.Shelters.length Q),(.slice an c.Room.length U),.int .i64 c.Err,(.slice ao d.Rain.length V),(.slice ap d.Faults.length W),(.slice aq d.Cmds.length Y),(.slice ar d.Takes.length Z),(.slice au d.Swaps.length ab),.int .i64 g.Hour,cy,cz,cx,a9,a8,c0,c1,ba,c2]::OS An 60 cx s.2.1::OS A4 69 a9 s.2.2.1::OS AN.int 3 a8 ac.2.1::OS AN.int 3 ba s.2.2.2::Bx da 36 [.int .i64 0,.slice none 0 0,.slice none 0 0,.slice none 0 0,.slice none 0 0,.slice none 0 0,.slice none 0 0]::L) λ_ _=>AI cb∧FD N c d g ac s (FE N g ac s) n1 cb cc cd ce cf cg=some r) N ?_ ?_ ?_
  ·intro aa ww hf hw
   have h7:=dm.sel [1,1,4,4,5,0,0,0,0,0,0] 0 O
   exact⟨0,kd,s.1,(.slice bg g.Rem.length ay),g.Rem,(.slice bk g.Out.length az),g.Out,kb,ac.2.2,((.slice none 0 0)),([]:List Az),_,_,hf.sub (kp [26,9,6,27] O),hw,h7,(B8.refl dk dl),(iq (n:=0) O),E⟩
  ·rintro aa ww ⟨_,_,_,_,_,_,_,_,_,_,_,_,_,_,_,_,_,_,E⟩
   rw[FD] at E;cases E
  rintro n1 aa ww ⟨cb,cy,cc,cz,cd,c0,ce,c1,cf,c2,cg,px,py,hf,hw,dn,D,kh,E⟩
  refine Ad ?_ hf hw
  clear hf hw ww aa
  rw[FD] at E
  refine AA (AG (.inl O) (A0 O O O (AD (kp [28,26,9,6,27] O) (AA (AW O (λdp=>?_) (λdp=>?_))))))
  ·have E:=BU dp E
   refine AT (AA (A6 (AA (AG (.inl O) (AB O O (AF O O (AD (kp [10,26,9,6,27] O) (Am (AJ 1 (AB O O (AE ?_)))))))))))
   have h8:=dn.sel [5,0,0,3,3,3,0,0,1,0,0] 0 O
   have ki:=ga.mono' (C.trans D)
   have kj:=gb.mono' (C.trans D)
   have kk:=gc.mono' (C.trans D)
   have kl:=gd.mono' (C.trans D)
   have km:=ge.mono' (C.trans D)
   have kn:=gf.mono' (C.trans D)
   have ko:=gg.mono' (C.trans D)
   have kq:=gh.mono' (C.trans D)
   have kr:=gi.mono' (C.trans D)
   have ks:=gj.mono' (C.trans D)
   have kt:=gk.mono' (C.trans D)
   have ku:=gl.mono' (C.trans D)
   have kv:=gm.mono' (C.trans D)
   obtain⟨ch,h9,E⟩:=bd E
   refine Cr O O O bO O (MY (p0_w:=(⟨c,d,(⟨g.Hour,cc,cd,s.2.1,s.2.2.1,ac.2.1,ce⟩:Al),cf,s.2.2.2,cg⟩:Ai)) h8 b2 ki b3 kj kk kl km kn ko kq b4 kr ks kt ku kv b0 kh h9) λpz p0 p1 kw p=>?_
   obtain⟨kx,ky,kz,k1,k2,rfl,ia⟩:=p
   refine AX (kp [26,9,6,27] O) (BJ (AG (.inl O) (Ap O O O (AB O O (AD (kp [27,26,9,6] O) (WF.nil (λaa ww hf hw=>?_)))))))
   have ib:=ia.sel [1,1,4,4,5,0,0,0,0,0,0] 0 O
   exact⟨(BD (cb+1)),kx,ch.1,ky,ch.2.1,kz,ch.2.2.1,k1,ch.2.2.2.1,k2,ch.2.2.2.2,_,_,hf.sub (kp [26,9,6,27] O),hw,ib,(D.trans kw),(BG _),E⟩
  have E:=BV dp E
  refine BB O (λaa ww hf hw=>?_)
  exact⟨cy,cc,cz,cd,c0,ce,c1,cf,c2,cg,_,_,hf.sub (kp [9,6] O),hw,dn,D,E⟩
 rintro aa ww ⟨b5,a5,b6,a6,b7,a7,b8,b9,ca,ad,p2,p3,hf,hw,bm,k4,E⟩
 refine Ad ?_ hf hw
 clear hf hw ww aa
 rw[FE] at E
 refine AA (Am (AJ 5 (AL O CV O (AL O JR O (AS A3 bm O (mt (mt (mt (mt (mt mh))))) O Kk O (AL O QV O (AS A3 bm O (mt (mt (mt (mt (mt mh))))) O Kk O (AE ?_))))))))
 obtain⟨ic,E⟩:=Ly E
 refine I8 (r:=An) (l:=s.2.1) (xs:=ad) O O Px O (St.src bm (mt (mt (mt (mt mh))))) O ic O bm (λ_=>(.tail (.tail (.tail (.tail (.tail (.tail .head))))))) λp4 p5 dq k5=>AJ 2 (AL O CV O (AL O JR O (AE ?_)))
 obtain⟨aw,av,rfl,p6⟩:=dq.oslen (mt (mt (mt (mt (mt (mt mh))))))
 refine HY (vs:=[(.slice aw (s.2.1++ad).length av)]) (cs':=[.string c.Name,(.slice af c.Owners.length G),.int .i64 c.Cells,(.slice ag c.Places.length H),(.slice ah c.Links.length I),(.slice ai c.Towns.length J),(.slice aj c.Gauges.length K),(.slice ak c.Roads.length M),(.slice am c.Shelters.length Q),(.slice an c.Room.length U),.int .i64 c.Err,(.slice ao d.Rain.length V),(.slice ap d.Faults.length W),(.slice aq d.Cmds.length Y),(.slice ar d.Takes.length Z),(.slice au d.Swaps.length ab),.int .i64 g.Hour,b5,b6,(.slice aw (s.2.1++ad).length av),a9,a8,b7,b8,ba,ca]) O O O O Kk O dq (.tail (.tail (.tail (.tail (.tail .head))))) O O λp7 dr k8=>AX (kp [9,6] O) (AA (Am (AJ 6 (AL O CV O (AL O ID O (AS A3 dr O (mt (mt (mt (mt (mt mh))))) O Ae O (Ap O O O (AL O CV O (AL O ID O (AE (HY (vs:=[.int .i64 (BD (g.Hour+1))]) (cs':=[.string c.Name,(.slice af c.Owners.length G),.int .i64 c.Cells,(.slice ag c.Places.length H),(.slice ah c.Links.length I),(.slice ai c.Towns.length J),(.slice aj c.Gauges.length K),(.slice ak c.Roads.length M),(.slice am c.Shelters.length Q),(.slice an c.Room.length U),.int .i64 c.Err,(.slice ao d.Rain.length V),(.slice ap d.Faults.length W),(.slice aq d.Cmds.length Y),(.slice ar d.Takes.length Z),(.slice au d.Swaps.length ab),.int .i64 (BD (g.Hour+1)),b5,b6,(.slice aw (s.2.1++ad).length av),a9,a8,b7,b8,ba,ca]) O O O O Ae O dr (.tail (.tail (.tail (.tail (.tail .head))))) O O λp8 t k9=>AX (kp [9,6] O) (AA ?_))))))))))))
 obtain⟨cq,bn,rfl,p9⟩:=t.oslen mh
 obtain⟨cr,bo,rfl,qa⟩:=t.oslen (mt mh)
 obtain⟨ct,bp,rfl,qb⟩:=t.oslen (mt (mt (mt (mt (mt (mt (mt mh)))))))
 obtain⟨cu,bq,rfl,qc⟩:=t.oslen (mt (mt (mt (mt (mt (mt (mt (mt mh))))))))
 obtain⟨cv,br,rfl,qd⟩:=t.oslen (mt (mt mh))
 obtain⟨ds,c3,rfl,qe⟩:=t.oslen (mt (mt (mt mh)))
 obtain⟨dt,c4,rfl,qf⟩:=t.oslen (mt (mt (mt (mt (mt (mt (mt (mt (mt mh)))))))))
 obtain⟨id,ei,rfl,qg⟩:=t.oslen (mt (mt (mt (mt mh))))
 refine Xv (λw=>w.heap[b1]? =some (.cells ([.string c.Name,(.slice af c.Owners.length G),.int .i64 c.Cells,(.slice ag c.Places.length H),(.slice ah c.Links.length I),(.slice ai c.Towns.length J),(.slice aj c.Gauges.length K),(.slice ak c.Roads.length M),(.slice am c.Shelters.length Q),(.slice an c.Room.length U),.int .i64 c.Err,(.slice ao d.Rain.length V),(.slice ap d.Faults.length W),(.slice aq d.Cmds.length Y),(.slice ar d.Takes.length Z),(.slice au d.Swaps.length ab),.int .i64 (BD (g.Hour+1)),(.slice cq a5.length bn),(.slice cr a6.length bo),(.slice aw (s.2.1++ad).length av),(.slice ct s.2.2.1.length bp),(.slice cu ac.2.1.length bq),(.slice cv a7.length br),(.slice ds b9.length c3),(.slice dt s.2.2.2.length c4),(.slice id ad.length ei)]:List Value).toArray 84 (0,0))) mo (SY 0 O (by kernel_rfl) (λw hw=>t.bxW (mt (mt (mt (mt (mt mh))))) hw) O CV O (PI 1 (vs:=[.int .i64 (BD (g.Hour+1)),(.slice cq a5.length bn),(.slice cr a6.length bo),(.slice aw (s.2.1++ad).length av),(.slice ct s.2.2.1.length bp),(.slice cu ac.2.1.length bq),(.slice cv a7.length br)]) O (by kernel_rfl) (λw hw=>t.bxW (mt (mt (mt (mt (mt mh))))) hw) O (λw hw=>hw) O O Gn O O (SY 2 O (by kernel_rfl) (λw hw=>t.bxW (mt (mt (mt (mt (mt mh))))) hw) O NI O (PI 3 (vs:=[(.slice ds b9.length c3)]) O (by kernel_rfl) (λw hw=>t.bxW (mt (mt (mt (mt (mt mh))))) hw) O (λw hw=>hw) O O Q4 O O (SY 4 O (by kernel_rfl) (λw hw=>t.bxW (mt (mt (mt (mt (mt mh))))) hw) O JQ O (PI 5 (vs:=[(.slice dt s.2.2.2.length c4)]) O (by kernel_rfl) (λw hw=>t.bxW (mt (mt (mt (mt (mt mh))))) hw) O (λw hw=>hw) O O BY O O (XD 6 O O (by kernel_rfl) (DD (vs:=[.int .i64 (BD (g.Hour+1)),(.slice cq a5.length bn),(.slice cr a6.length bo),(.slice aw (s.2.1++ad).length av),(.slice ct s.2.2.1.length bp),(.slice cu ac.2.1.length bq),(.slice cv a7.length br)]) O O O O Gn O t (.tail (.tail (.tail (.tail (.tail (.tail (.tail (.tail (.tail (.tail .head)))))))))) O λqh bs la=>Tb (λw hw=>bs.bxW (mt (mt (mt (mt (mt mh))))) hw) (V4 7 O (by kernel_rfl) (λw hw=>bs.bxW (mt (mt (mt (mt (mt mh))))) hw) O O (V4 8 O (by kernel_rfl) (λw hw=>bs.bxW (mt (mt (mt (mt (mt mh))))) hw) O O (Tc (by kernel_rfl) (kp [8,7,6] O) (Ab (λaa ww hf hw=>?_)))))))))))))
 obtain⟨qi,ie,lb,lc⟩:=bs.pubs .head
 obtain⟨qj,ig,gn,le⟩:=ie.pubs .head
 obtain⟨qk,ih,du,lf⟩:=ig.pubs (.tail (.tail (.tail (.tail .head))))
 obtain⟨ql,ii,c5,lg⟩:=ih.pubs (.tail (.tail (.tail (.tail .head))))
 obtain⟨qm,ij,ci,lh⟩:=ii.pubs (.tail (.tail (.tail (.tail .head))))
 obtain⟨qn,ik,bb,li⟩:=ij.pubs .head
 have dv:=ik.sel [0,2,2] 2 O
 have il:=gn.trans (du.trans (c5.trans (ci.trans bb)))
 have lj:=lc.mono' il
 have im:=du.trans (c5.trans (ci.trans bb))
 have ll:=le.mono' im
 have io:=c5.trans (ci.trans bb)
 have lm:=lf.mono' io
 have lo:=lg.mono' (ci.trans bb)
 have lp:=lh.mono' bb
 have ip:=dv.drop (.tail (.tail .head))
 cases E
 have ir:=e5.trans (c8.trans (c9.trans (c6.trans ((SX.ext k.1 bz (WG a2)).trans (u.trans (y.trans (z.trans (A.trans (C.trans (k4.trans (k5.trans (k8.trans (k9.trans (la.trans (lb.trans (gn.trans (du.trans (c5.trans (ci.trans bb)))))))))))))))))))
 exact Jn hf O hw (Hn (V8 hf hw dv O (mt (mt mh)) Gn O) (Hn (qQ hf (v:=_) O) (Hn (qQ hf (v:=_) O) Jm))) O ir ⟨_,_,_,O,(CL.mk (x:=(⟨(BD (g.Hour+1)),a5,a6,(s.2.1++ad),s.2.2.1,ac.2.1,a7⟩:Al)) (BG _) lj ll lm lo lp li),ip⟩
end Go.Proofs.YtblcgjadhemlbaaGreat
