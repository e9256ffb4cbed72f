import Derived.Test.YtibidnaedddfdaaGreatDWalk11
import Derived.Test.YtibidnaedddfdaaGreatDForms
import Derived.Lib.Mul64
namespace Go.Proofs.YtibidnaedddfdaaGreat
set_option linter.all false
open Go.RowKit
open Go.Proofs.Tryz
set_option maxRecDepth 10000
set_option maxHeartbeats 2000000
variable {N:Nat}{S:Nat→Prop}{L:List HP}{h:BB}
def KL (hs:St S L h) {H:Value}{aq:AU}(am:Rd S h Ch H aq) {u:Int}(k:AD u) {I:Value}{ar:Cf}(an:Rd S h EZ I ar) {m:Value}{t:(List Cr)}(d:Sl S h GF m t) {y:Value}{ac:(List CW)}(j:Sl S h FB y ac) {c:Int}(n:AD c) {r:Bool}(E:FP N aq u ar t ac c=some r):
 Ct prog 4 #[H,vI u,I,m,y,vI c] S h (λv S' h'=>v= .bool r∧St S' (L) h'):=by
 refine BO (l:=[H,vI u,I,m,y,vI c]) 151 func4 O ntmps4 O λB=>?_
 rw[FP] at E
 refine WF.sl (BM O am (λe=>by cases e) O hs λq1 S2 h3 b3 e5 k6=>BM O (an.mono e5) (λe=>by cases e) O b3 λq8 S9 c5 a4 af a5=>A5 1 (A4 O (A6 (AS (kp [8,6,1,3,4,5] O) (AC (WF.rc (.inl O) a4 ?_))))))
 obtain⟨Q,a6,E⟩:=bd E
 refine BL O O O fA O (λh' o=>Ld (St.all h') a6) (A4 O (Bu (kp [13,8,6,1,3,4,5] O) λc6 U V=>AC (WF.rc (.inl O) U ?_)))
 have a7:=k6.mono (af.trans V)
 refine BP Bs U.1 O a7 Hc (λe=>by cases e) O λc7 b4=>AA O (AA O ?_)
 have ah:=e5.trans (af.trans V)
 obtain⟨J,a8,E⟩:=bd E
 refine BL O O O eZ O (λh' o=>Mj (St.all h') (b4.mono (o.all U.1)) ((d.mono' ah).mono' (o.all U.1)) ((j.mono' ah).mono' (o.all U.1)) a8) (A4 O (Bu (kp [14,13,8,6,1,3,4,5] O) λc8 ad W=>AC (WF.rc (.inl O) ad ?_)))
 have ao:=a7.mono W
 refine BP Bs ad.1 O ao Hc (λe=>by cases e) O λc9 b5=>AA O ?_
 obtain⟨X,a9,E⟩:=bd E
 refine BL O O O eY O (λh' o=>L9 (St.all h') (b5.mono (o.all ad.1)) ((d.mono' (ah.trans W)).mono' (o.all ad.1)) a9) (A4 O (Bu (kp [15,14,13,8,6,1,3,4,5] O) λda F K=>AC (AC (WF.rc (.inl O) F (AA O (BT O (AA O (AO 3 35 (.bool ((!J)||(!X))) ?_ ?_))))))))
 ·cases db:(!J)
  ·exact AB O (AA O (AB O (BT O (AI O (AN O)))))
  exact AX O O
 refine AA O (AO 3 39 (.bool (((!J)||(!X))||(decide (c<0)))) ?_ ?_)
 ·cases dc:((!J)||(!X))
  ·exact AB O (AA O (AB O (BE O (AI O (AN O)))))
  exact AX O O
 refine AA O (AO 3 43 (.bool ((((!J)||(!X))||(decide (c<0)))||(decide (8<c)))) ?_ ?_)
 ·cases dd:(((!J)||(!X))||(decide (c<0)))
  ·exact AB O (AA O (AB O (CN O (AI O (AN O)))))
  exact AX O O
 refine AA O (AO 4 48 (.bool (((((!J)||(!X))||(decide (c<0)))||(decide (8<c)))||(decide ((↑t.length:Int)<2)))) ?_ ?_)
 ·cases de:((((!J)||(!X))||(decide (c<0)))||(decide (8<c)))
  ·exact AB O (AA O (AB O (BJ O (d.mono' (e5.trans (af.trans (V.trans (W.trans K))))) NR O λdf=>AB O (BE O (AI O (AN O))))))
  exact AX O O
 refine AA O ?_
 obtain⟨ba,z,E⟩:=bd E
 refine AO 4 53 (.bool ba) ?_ ?_
 ·cases bb:(((((!J)||(!X))||(decide (c<0)))||(decide (8<c)))||(decide ((↑t.length:Int)<2)))
  ·have z:=GY bb z
   refine AB O (BP Bs F.1 O (ao.mono K) Hc (λe=>by cases e) O λdg b6=>AB O ?_)
   obtain⟨dh,bc,z⟩:=bd z
   refine BL O O O fD O (λh' o=>Ok (St.all h') (b6.mono (o.all F.1)) bc) (AB O (BT O (AI O ?_)))
   cases z
   exact AN O
  have z:=GX bb z
  cases z
  exact AX O O
 refine AA O ?_
 obtain⟨b7,A,E⟩:=bd E
 refine AO 5 59 (.bool b7) ?_ ?_
 ·cases be:ba
  ·have A:=GY be A
   refine AB O (BP Bs F.1 O (ao.mono K) Hc (λe=>by cases e) O λdi b8=>AB O (BP Bs F.1 O (a5.mono (V.trans (W.trans K))) Jj (λe=>by cases e) O λdj b9=>AB O ?_))
   obtain⟨dk,bf,A⟩:=bd A
   refine BL O O O fC O (λh' o=>PQ (St.all h') (b8.mono (o.all F.1)) (b9.mono (o.all F.1)) bf) (AB O (BT O (AI O ?_)))
   cases A
   exact AN O
  have A:=GX be A
  cases A
  exact AX O O
 refine Bu (kp [59,13,8,6,1,3,4,5] O) λdl ai aj=>AW O E (λca E=>?_) (λca E=>?_)
 ·refine AE (AA O (AJ O (kp [12] O) (WF.ret (λaa ww hf hw=>?_))))
  cases E
  exact EU hf hw O O (e5.trans (af.trans (V.trans (W.trans (K.trans aj))))) ⟨O,ai⟩
 refine AQ (WF.sl (A5 3 ?_))
 have bg:=ao.mono (K.trans aj)
 refine AV O bg AU.f_Links Gu O λdm cb=>BR BX ai.1 O cb JP O λdn cc=>BJ O cc Ht O λdp=>A6 ?_
 obtain⟨bh,E⟩:=TW E
 refine Pr (r:=B7.bool) (zx:=false) dU O O O O bh O O ai λdq dr C ap=>A5 1 (A4 O (A6 (AS (kp [16,13,8,6,1,3,4,5] O) (AC (WF.rc (.inl O) C ?_)))))
 have bi:=bg.mono ap
 refine BP Bs C.1 O bi Hc (λe=>by cases e) O λds cd=>AA O ?_
 have bj:=a5.mono (V.trans (W.trans (K.trans (aj.trans ap))))
 refine BP Bs C.1 O bj Jj (λe=>by cases e) O λdt ce=>AA O (AA O (AA O (AA O ?_)))
 have Y:=e5.trans (af.trans (V.trans (W.trans (K.trans (aj.trans ap)))))
 obtain⟨i,bk,E⟩:=bd E
 refine Bz O O O UP O (λh' o=>Ib (St.all h') (cd.mono (o.all C.1)) k (ce.mono (o.all C.1)) ((d.mono' Y).mono' (o.all C.1)) ((j.mono' Y).mono' (o.all C.1)) ((C.oslAll mh).mono (λb hb=>iY hb o.siz) (λb hb=>o.same b hb)) n bk) λcf=>?_
 have du:=cf
 refine NF O Ox O O (A4 O (Bu (kp [17,16,13,8,6,1,3,4,5] O) λdv D ag=>AC (WF.rc (.inr ⟨mo,by kernel_rfl⟩) D ?_)))
 have bl:=bi.mono ag
 refine BP Bs D.1 O bl Hc (λe=>by cases e) O λdw cg=>AA O ?_
 have bm:=bj.mono ag
 refine BP Bs D.1 O bm Jj (λe=>by cases e) O λch bn=>AA O ?_
 obtain⟨ci,aw,E⟩:=bd E
 refine YT O O (d.mono' (Y.trans ag)) NR aw O λcj bo=>AA O (AA O (AA O ?_))
 obtain⟨G,ax,E⟩:=bd E
 refine Bz O O O UP O (λh' o=>Ib (St.all h') (cg.mono (o.all D.1)) k (bn.mono (o.all D.1)) (bo.mono' (o.all D.1)) ((j.mono' (Y.trans ag)).mono' (o.all D.1)) ((D.oslAll mh).mono (λb hb=>iY hb o.siz) (λb hb=>o.same b hb)) n ax) λbp=>?_
 have bq:=bp
 refine NF O Ox O O (A4 O (Bu (kp [18,17,16,13,8,6,1,3,4,5] O) λck p ae=>AC (WF.rc (.inr ⟨mo,by kernel_rfl⟩) p ?_)))
 have au:=bl.mono ae
 refine BP Bs p.1 O au Hc (λe=>by cases e) O λcl br=>AA O ?_
 have av:=bm.mono ae
 refine BP Bs p.1 O av Jj (λe=>by cases e) O λcm bs=>AA O ?_
 have M:=Y.trans (ag.trans ae)
 obtain⟨cn,ay,E⟩:=bd E
 refine YU O O (d.mono' M) NR ay O λco bt=>AA O (AA O (AA O ?_))
 obtain⟨Z,az,E⟩:=bd E
 refine Bz O O O UP O (λh' o=>Ib (St.all h') (br.mono (o.all p.1)) k (bs.mono (o.all p.1)) (bt.mono' (o.all p.1)) ((j.mono' M).mono' (o.all p.1)) ((p.oslAll mh).mono (λb hb=>iY hb o.siz) (λb hb=>o.same b hb)) n az) λbu=>?_
 have bv:=bu
 refine NF O Ox O O (A4 O (Bu (kp [19,18,17,16,13,8,6,1,3,4,5] O) λcp s ab=>AC (WF.rc (.inl O) s (BP Bs s.1 O (au.mono ab) Hc (λe=>by cases e) O λcq bw=>AA O (BP Bs s.1 O (av.mono ab) Jj (λe=>by cases e) O λcr bx=>AA O (AA O (AA O (AA O (BD O ?_)))))))))
 obtain⟨g,a0,E⟩:=bd E
 refine Bz O O O UP O (λh' o=>Ib (St.all h') (bw.mono (o.all s.1)) k (bx.mono (o.all s.1)) ((d.mono' (M.trans ab)).mono' (o.all s.1)) ((j.mono' (M.trans ab)).mono' (o.all s.1)) ((s.oslAll mh).mono (λb hb=>iY hb o.siz) (λb hb=>o.same b hb)) (CJ _) a0) λbz=>?_
 have cs:=bz
 refine NF O Ox O O (A4 O (Bu (kp [20,19,18,17,13,5] O) λak al b0=>AE (AA O (AJ O (kp [21,20,19,18,17,13,5] O) (AC (AE (AA O (EQ O (AA O (AO 8 115 (.bool ((decide (0≤Z.O))&&((decide (G.O<0))||(decide (Z.O<G.O))))) ?_ ?_))))))))))
 ·cases ct:(decide (0≤Z.O))
  ·exact AX O O
  refine AB O (AA O (AB O (BE O (AB O (AA O (AO 4 114 (.bool ((decide (G.O<0))||(decide (Z.O<G.O)))) ?_ ?_))))))
  ·cases cu:(decide (G.O<0))
   ·exact AB O (AA O (AB O (AA O (AB O (BE O (AB O (AI O (AN O))))))))
   exact AX O O
  exact AI O (AN O)
 refine AL (kp [115,21,20,19,17,13,5] O) (HW (λa w=>∃(x:Int),IV B S9 ak (151,[]) a w [(20,vI g.O),(17,vI i.O),(13,.bool Q),(5,vI c),(21,vI x)] (L) λ_ _=>AD x∧Dq N c Q i g x=some r) ?_ ?_)
 ·refine AW O E (λb1 E=>?_) (λb1 E=>?_)
  ·refine CL (.inl O) (AA O (AJ O (kp [21,20,17,13,5] O) (WF.nil (λaa ww hf hw=>?_))))
   have a1:=al.drop .head
   exact⟨Z.O,_,_,hf.sub (kp [20,17,13,5,21] O),hw,a1,(Cm.refl S9 ak),bv,E⟩
  refine AQ (WF.nil (λaa ww hf hw=>?_))
  have a2:=al.drop .head
  exact⟨G.O,_,_,hf.sub (kp [20,17,13,5,21] O),hw,a2,(Cm.refl S9 ak),bq,E⟩
 rintro aa ww ⟨x,cv,cw,hf,hw,a3,b2,cx,E⟩
 refine A8 ?_ hf hw
 clear hf hw ww aa
 rw[Dq] at E
 refine AE (AA O (AA O (AO 4 122 (.bool (Q&&(decide (i.O=x)))) ?_ ?_)))
 ·cases cy:Q
  ·exact AX O O
  exact AB O (AA O (AB O (AA O (AB O (CR O (AI O (AN O)))))))
 refine AA O (AO 21 144 (.bool ((Q&&(decide (i.O=x)))&&(((decide (i.O<0))&&((decide (g.O<0))||(decide (g.O=c))))||((decide (0≤i.O))&&(decide (g.O=i.O)))))) ?_ ?_)
 ·cases cz:(Q&&(decide (i.O=x)))
  ·exact AX O O
  refine AB O (AA O (AB O (BE O (AB O (AA O (AO 8 134 (.bool ((decide (i.O<0))&&((decide (g.O<0))||(decide (g.O=c))))) ?_ ?_))))))
  ·cases c0:(decide (i.O<0))
   ·exact AX O O
   refine AB O (AA O (AB O (BE O (AB O (AA O (AO 4 133 (.bool ((decide (g.O<0))||(decide (g.O=c)))) ?_ ?_))))))
   ·cases c1:(decide (g.O<0))
    ·exact AB O (AA O (AB O (AA O (AB O (CR O (AB O (AI O (AN O))))))))
    exact AX O O
   exact AB O (AI O (AN O))
  refine AB O (AA O (AO 8 143 (.bool (((decide (i.O<0))&&((decide (g.O<0))||(decide (g.O=c))))||((decide (0≤i.O))&&(decide (g.O=i.O))))) ?_ ?_))
  ·cases c2:((decide (i.O<0))&&((decide (g.O<0))||(decide (g.O=c))))
   ·refine AB O (AA O (AB O (EQ O (AB O (AA O (AO 4 142 (.bool ((decide (0≤i.O))&&(decide (g.O=i.O)))) ?_ ?_))))))
    ·cases c3:(decide (0≤i.O))
     ·exact AX O O
     exact AB O (AA O (AB O (AA O (AB O (CR O (AB O (AI O (AN O))))))))
    exact AB O (AI O (AN O))
   exact AX O O
  exact AI O (AN O)
 refine AA O (AO 5 150 (.bool (((Q&&(decide (i.O=x)))&&(((decide (i.O<0))&&((decide (g.O<0))||(decide (g.O=c))))||((decide (0≤i.O))&&(decide (g.O=i.O)))))&&(decide (i.O<(max c 1))))) ?_ ?_)
 ·cases c4:((Q&&(decide (i.O=x)))&&(((decide (i.O<0))&&((decide (g.O<0))||(decide (g.O=c))))||((decide (0≤i.O))&&(decide (g.O=i.O)))))
  ·exact AX O O
  exact AB O (AA O (AB O (AA O (AB O (Jf O O O (AB O (BE O (AI O (AN O)))))))))
 refine AJ O (kp [12] O) (WF.ret (λaa ww hf hw=>?_))
 cases E
 exact EU hf hw O O (e5.trans (af.trans (V.trans (W.trans (K.trans (aj.trans (ap.trans (ag.trans (ae.trans (ab.trans (b0.trans b2))))))))))) ⟨O,a3⟩
end Go.Proofs.YtibidnaedddfdaaGreat
namespace Go.Proofs.YtibidnaedddfdaaGreat
set_option linter.all false
open Go.RowKit
abbrev Df {α}(x:Option α):Prop:=∃v,x=some v
def Kf (n:Int):IntKind.u64.wrap n=n%18446744073709551616:=by simp [IntKind.wrap,IntKind.bits,IntKind.signed]
def D1 (a:Nat) (h:a<18446744073709551616):IntKind.u64.wrap (a:Int)=a:=by rw[Kf];omega
def N5 {n:Int}(h:IntKind.u64.has n):IntKind.u64.wrap n=n:=by
 simp [IntKind.has,IntKind.min,IntKind.max,IntKind.bits,IntKind.signed] at h;rw[Kf];omega
def Lc {n:Int}:IntKind.u64.has n↔0≤n∧n≤18446744073709551615:=by simp [IntKind.has,IntKind.min,IntKind.max,IntKind.bits,IntKind.signed]
def V5 {n:Int}(h:IntKind.u64.has n):∃a:Nat,n=a∧a<18446744073709551616:=by
 rw[Lc] at h
 exact⟨n.toNat,by omega,by omega⟩
def TG (a j:Nat) (b:j≤64):Du .u64 (a:Int) j=((a/2^j:Nat):Int):=by
 unfold Du
 have e:min j IntKind.u64.bits=j:=by simp [IntKind.bits];omega
 rw[e,Int.fdiv_eq_ediv_of_nonneg _ (Int.le_of_lt (Int.pow_pos (by decide)))]
 simp
def gY (a b:Nat) (g:a<18446744073709551616) (i:b<18446744073709551616):Gj .and .u64 (a:Int) (b:Int)=((a&&&b:Nat):Int):=by
 have c:(BitVec.ofInt 64 (a:Int)).toNat=a:=by rw[BitVec.ofInt_natCast,BitVec.toNat_ofNat];exact lW (by omega)
 have d:(BitVec.ofInt 64 (b:Int)).toNat=b:=by rw[BitVec.ofInt_natCast,BitVec.toNat_ofNat];exact lW (by omega)
 have j:a&&&b<2^64:=Nat.and_lt_two_pow _ (by omega)
 show IntKind.u64.wrap (((BitVec.ofInt 64 (a:Int))&&&(BitVec.ofInt 64 (b:Int))).toNat:Int)=_
 rw[BitVec.toNat_and,c,d,D1 _ (by omega)]
def PO (a:Nat) (b:a<18446744073709551616):Gj .and .u64 (a:Int) 4294967295=((a%4294967296:Nat):Int):=by
 have h:=gY a 4294967295 b (by omega)
 have e:a&&&4294967295=a%4294967296:=Nat.and_two_pow_sub_one_eq_mod a 32
 rw[e] at h
 exact h
def Lp (a:Nat):Du .u64 (a:Int) 32=((a/4294967296:Nat):Int):=TG a 32 (by omega)
def Nb (a b:Nat):(a:Int)*(b:Int)=((a*b:Nat):Int):=(lX a b).symm
def Qd (a b:Nat):(a:Int)+(b:Int)=((a+b:Nat):Int):=(Int.natCast_add a b).symm
def Yp (a:Nat):IntKind.u64.wrap (a:Int)=((a%18446744073709551616:Nat):Int):=by rw[Kf];omega
def Nc (N x y:Nat) (k:x<18446744073709551616) (l:y<18446744073709551616):F8 N (x:Int) (y:Int)=some (((x*y/18446744073709551616:Nat):Int),((x*y%18446744073709551616:Nat):Int)):=by
 obtain⟨bd,m,n,c⟩:=Lib.mul64_hi x y k l
 have p:=Lib.half_mul_le (a:=x/4294967296) (b:=y/4294967296) (by omega) (by omega)
 have q:=Lib.half_mul_le (a:=x/4294967296) (b:=y%4294967296) (by omega) (by omega)
 have s:=Lib.half_mul_le (a:=x%4294967296) (b:=y/4294967296) (by omega) (by omega)
 have d:x/4294967296*(y/4294967296)<18446744073709551616:=by omega
 have g:x/4294967296*(y%4294967296)<18446744073709551616:=by omega
 have i:x%4294967296*(y/4294967296)<18446744073709551616:=by omega
 have j:x/4294967296*(y/4294967296)+(x/4294967296*(y%4294967296)+x%4294967296*(y%4294967296)/4294967296)/4294967296<18446744073709551616:=by omega
 have o:x/4294967296*(y/4294967296)+(x/4294967296*(y%4294967296)+x%4294967296*(y%4294967296)/4294967296)/4294967296+((x/4294967296*(y%4294967296)+x%4294967296*(y%4294967296)/4294967296)%4294967296+x%4294967296*(y/4294967296))/4294967296<18446744073709551616:=by omega
 simp only[F8,Lp,PO x k,PO y l,Nb,Qd,D1 _ bd,D1 _ g,D1 _ m,PO _ m,D1 _ i,D1 _ n,D1 _ d,D1 _ j,D1 _ o,Yp (x*y)]
 rw[c]
def Ln (x n:Nat):Prop:=1≤n∧2^(n-1)≤x∧x<2^n
def Ln.shift {x m s:Nat}(h:Ln (x/2^s) m):Ln x (m+s):=by
 obtain⟨d,b,c⟩:=h
 have a:0<2^s:=mL s
 refine⟨by omega,?_,?_⟩
 ·have:2^(m-1)*2^s≤x:=(Nat.le_div_iff_mul_le a).1 b
  rw[show m+s-1=(m-1)+s by omega,Nat.pow_add];exact this
 ·have:=(mY a).1 c
  rw[Nat.pow_add];exact this
set_option maxRecDepth 20000 in
def gH:∀k:Nat,k<256→UQ Ka (k:Int)=some (((if k=0 then 0 else k.log2+1:Nat)):Int):=by decide +kernel
def Xe {k:Nat}(h0:0<k) (h:k<256):∃n:Nat,UQ Ka (k:Int)=some (n:Int)∧Ln k n∧n≤8:=by
 have e:=gH k h
 rw[iP (by omega)] at e
 refine⟨_,e,⟨by omega,?_,Nat.lt_log2_self⟩,?_⟩
 ·rw[mM];exact Nat.log2_self_le (by omega)
 ·have:k.log2<8:=(Nat.log2_lt (by omega)).2 h
  omega
def Vx (N:Nat) {x:Nat}(h0:0<x) (u:x<18446744073709551616):∃n:Nat,Gv N (x:Int)=some (n:Int)∧Ln x n∧n≤64:=by
 have c:∀a:Nat,a<9223372036854775808→B8 (a:Int)=a:=λa h=>My (by unfold AD;omega)
 have l:∀a:Nat,a<256→IntKind.u8.wrap (a:Int)=a:=λa h=>by simp [IntKind.wrap,IntKind.bits,IntKind.signed];omega
 have o:∀a b:Nat,0<a→a<256→b≤56→∃n:Nat,FG N (a:Int) (b:Int)=some ((n+b:Nat):Int)∧Ln a n∧n≤8:=λa b j k p=>by
  obtain⟨n,d,g,i⟩:=Xe j k
  refine⟨n,?_,g,i⟩
  simp only[FG,l a k,d,iM,c n (by omega),Qd,Nat.add_comm b n,c (n+b) (by omega)]
 have q:∀a b:Nat,0<a→a<65536→b≤48→∃n:Nat,FH N (a:Int) (b:Int)=some ((n+b:Nat):Int)∧Ln a n∧n≤16:=λa b j k p=>by
  unfold FH
  by_cases s:256≤a
  ·rw[show decide ((256:Int)≤(a:Int))=true by simp;omega,iN,TG a 8 (by omega)]
   have m:B8 ((b:Int)+8)=((b+8:Nat):Int):=by rw[show ((b:Int)+8)=((b+8:Nat):Int) by omega];exact c _ (by omega)
   rw[m]
   obtain⟨n,d,g,i⟩:=o (a/2^8) (b+8) (by omega) (by omega) (by omega)
   exact⟨n+8,by rw[d,show n+(b+8)=n+8+b by omega],g.shift,by omega⟩
  ·rw[show decide ((256:Int)≤(a:Int))=false by simp;omega,iO]
   obtain⟨n,d,g,i⟩:=o a b j (by omega) (by omega)
   exact⟨n,d,g,by omega⟩
 have t:∀a b:Nat,0<a→a<4294967296→b≤32→∃n:Nat,FI N (a:Int) (b:Int)=some ((n+b:Nat):Int)∧Ln a n∧n≤32:=λa b j k p=>by
  unfold FI
  by_cases s:65536≤a
  ·rw[show decide ((65536:Int)≤(a:Int))=true by simp;omega,iN,TG a 16 (by omega)]
   have m:B8 ((b:Int)+16)=((b+16:Nat):Int):=by rw[show ((b:Int)+16)=((b+16:Nat):Int) by omega];exact c _ (by omega)
   rw[m]
   obtain⟨n,d,g,i⟩:=q (a/2^16) (b+16) (by omega) (by omega) (by omega)
   exact⟨n+16,by rw[d,show n+(b+16)=n+16+b by omega],g.shift,by omega⟩
  ·rw[show decide ((65536:Int)≤(a:Int))=false by simp;omega,iO]
   obtain⟨n,d,g,i⟩:=q a b j (by omega) (by omega)
   exact⟨n,d,g,by omega⟩
 unfold Gv
 by_cases s:4294967296≤x
 ·rw[show decide ((4294967296:Int)≤(x:Int))=true by simp;omega,iN,TG x 32 (by omega)]
  obtain⟨n,d,g,i⟩:=t (x/2^32) 32 (by omega) (by omega) (by omega)
  exact⟨n+32,by rw[show ((32:Int))=((32:Nat):Int) from rfl,d],g.shift,by omega⟩
 ·rw[show decide ((4294967296:Int)≤(x:Int))=false by simp;omega,iO]
  obtain⟨n,d,g,i⟩:=t x 0 h0 (by omega) (by omega)
  exact⟨n,d,g,by omega⟩
def Yy (N:Nat) {y:Nat}(h0:0<y) (a:y<18446744073709551616):∃s:Nat,EW N (y:Int)=some (s:Int)∧s≤63∧9223372036854775808≤y*2^s∧y*2^s<18446744073709551616:=by
 obtain⟨n,b,⟨g,c,d⟩,i⟩:=Vx N h0 a
 refine⟨64-n,?_,by omega,?_,?_⟩
 ·simp only[EW,b,iM]
  rw[My (by unfold AD;omega)]
  congr 1;omega
 ·have:=kE (2^(64-n)) c
  rw[←Nat.pow_add,show n-1+(64-n)=63 by omega] at this
  exact this
 ·have:=Nat.mul_lt_mul_of_pos_right d (mL (64-n))
  rw[←Nat.pow_add,show n+(64-n)=64 by omega] at this
  exact this
end Go.Proofs.YtibidnaedddfdaaGreat
