import Derived.Test.YtblcgjadhemlbaaGreatQPureGt
import Derived.Test.YtblcgjadhemlbaaGreatQPureBase
namespace Go.Proofs.YtblcgjadhemlbaaGreat
open Go.RowKit
set_option linter.unusedVariables false
set_option linter.unusedSimpArgs false
structure KO (P W:Nat) (o:List (List Int)):Prop where
 len:o.length=P
 all:∀x∈o,x.length=W
theorem KO.ix {P W:Nat}{o:List (List Int)}(h:KO P W o) {k:Nat}(hk:k<P):∃x,Go.Proofs.YtblcgjadhemlbaaGreat.ix o (k:Int)=some x∧x.length=W:=by
 obtain⟨x,e,hm⟩:=ixD (l:=o) (i:=k) (by rw[h.len];exact hk)
 exact⟨x,e,h.all x hm⟩
theorem KO.upd {P W:Nat}{o:List (List Int)}(h:KO P W o) (i:Int) {x:List Int}(hx:x.length=W):KO P W (upd o i x):=
 ⟨by rw[K0];exact h.len,λy hy=>by
  rcases List.mem_or_eq_of_mem_set hy with hy|rfl
  ·exact h.all y hy
  ·exact hx⟩
theorem T3 {N:Nat}(hN:1000000<N) {s:Al}(h1:s.Own.length≤64) (h2:∀x∈s.Own,x.length≤1000) (h3:s.Rem.length≤1000) (h4:s.Gates.length≤1000) (h5:s.In.length≤1000) (h6:s.Out.length≤1000):IU N s=some s:=by
 unfold IU
 rw[JJ (by omega) _ (by decide)]
 obtain⟨o,⟨i1,i2⟩,e⟩:=E5 s.Own.length (λn i l=>EF N s (EG N s) n i l) (EG N s) (λk (l:List (List Int))=>l.length=s.Own.length∧∀i,i<k→l[i]? =s.Own[i]?) (λn k l hk=>by
  simp only[EF];rw[E7 hk];rfl) (λn k l hi hk=>by
  simp only[EF]
  have hkl:k<l.length:=by rw[hi.1];exact hk
  rw[E6 hk,cond_true,BQ hk,Option.bind_some,J3 N (by have:=h2 _ (List.getElem_mem hk);omega)]
  simp only[BQ hkl,Option.bind_some]
  rw[BH (by omega)]
  refine⟨_,⟨by rw[K0];exact hi.1,λi hik=>?_⟩,rfl⟩
  by_cases hne:k=i
  ·subst hne;rw[M1 hkl];simp [hk]
  ·rw[P8 hne];exact hi.2 i (by omega)) N 0 (List.replicate ((s.Own.length:Int)).toNat ([]:List Int)) ⟨Lp _ _,λi hi=>by omega⟩ (by omega) (Nat.zero_le _)
 rw[show EF N s (EG N s) N 0 _=EG N s o from e]
 have ho:o=s.Own:=List.ext_getElem? λi=>by
  rcases Nat.lt_or_ge i s.Own.length with h|h
  ·exact i2 i h
  ·rw[List.getElem?_eq_none h,List.getElem?_eq_none (by omega)]
 subst ho
 unfold EG
 rw[J3 N (by omega),Option.bind_some,SP N (by omega),Option.bind_some,J3 N (by omega),Option.bind_some,J3 N (by omega),Option.bind_some]
theorem UU {N:Nat}(hN:1000000<N) {w:Ai}{W:Nat}(hW:W≤1000) (hs:w.in_.Swaps.length≤1000) (ho:KO w.b.Places.length W w.s.Own):∃o,Gs N w=some o∧KO w.b.Places.length W o:=by
 unfold Gs
 obtain⟨o,i1,e⟩:=E5 w.in_.Swaps.length (λn i l=>Cb N w n i l) (λl=>some l) (λ_ l=>KO w.b.Places.length W l) (λn k l hk=>by
  simp only[Cb];rw[E7 hk];rfl) (λn k l hi hk=>by
  simp only[Cb,Fg]
  rw[E6 hk,cond_true,BQ hk,BH (by omega)]
  simp only[Option.bind_some,Kp,Ee,Mq]
  generalize w.in_.Swaps[k]=x
  cases hb:(((decide (0≤x.Place)&&decide (x.Place<(w.b.Places.length:Int)))&&(decide (0≤x.From)&&decide (x.From<(w.b.Owners.length:Int))))&&(decide (0≤x.To)&&decide (x.To<(w.b.Owners.length:Int))))
  ·exact⟨l,hi,rfl⟩
  ·simp only[Bool.and_eq_true,decide_eq_true_eq] at hb
   obtain⟨j,hj,hjl⟩:=Z5 (l:=l) hb.1.1.1 (by rw[hi.len];exact hb.1.1.2)
   obtain⟨y,hy,hyl⟩:=hi.ix (k:=j) (by rw[←hi.len];exact hjl)
   rw[cond_true,hj]
   simp only[hy,Option.bind_some]
   obtain⟨z,hz,hzl⟩:=U6 hN (p:=y) (by omega) x.From x.To x.Litres
   rw[hz,Option.bind_some]
   exact⟨_,hi.upd _ (hzl.trans hyl),rfl⟩) N 0 w.s.Own ho (by omega) (Nat.zero_le _)
 exact⟨o,e,i1⟩
theorem WP {N:Nat}(hN:1000000<N) {w:Ai}{W:Nat}(hW:w.b.Owners.length=W) (h1:1≤W) (h16:W≤16) (hP:w.b.Places.length≤64) (ho:KO w.b.Places.length W w.s.Own) (hq:w.s.Queue.length≤1000) (hqp:∀l∈w.s.Queue,l.Part.length=W) (hin:w.s.In.length=W) (hm:w.moves.length≤1000):
  ∃r,HC N w=some r∧KO w.b.Places.length W r.1∧r.2.1.length=W∧r.2.2.length≤w.moves.length+w.b.Places.length:=by
 unfold HC
 obtain⟨s1,_,e1⟩:=E5 w.s.Own.length (λn i s=>DN N w (DP N w) n s i) (DP N w) (λ_ _=>True) (λn k s hk=>by
  simp only[DN];rw[E7 hk];rfl) (λn k s _ hk=>by
  simp only[DN]
  obtain⟨v,hv⟩:=IR hN (p:=w.s.Own[k]) (by rw[ho.all _ (List.getElem_mem hk)];omega)
  rw[E6 hk,cond_true]
  simp only[BQ hk,Option.bind_some]
  rw[hv,Option.bind_some,BH (by have:=ho.len;omega)]
  exact⟨_,trivial,rfl⟩) N 0 0 trivial (by have:=ho.len;omega) (Nat.zero_le _)
 rw[show DN N w (DP N w) N 0 0=DP N w s1 from e1]
 unfold DP
 obtain⟨s2,_,e2⟩:=E5 w.s.Queue.length (λn i s=>DM N w (DO N w) n s i) (DO N w) (λ_ _=>True) (λn k s hk=>by
  simp only[DM];rw[E7 hk];rfl) (λn k s _ hk=>by
  simp only[DM]
  obtain⟨v,hv⟩:=IR hN (p:=w.s.Queue[k].Part) (by rw[hqp _ (List.getElem_mem hk)];omega)
  rw[E6 hk,cond_true,BQ hk,Option.bind_some,hv,Option.bind_some,BH (by omega)]
  exact⟨_,trivial,rfl⟩) N 0 s1 trivial (by omega) (Nat.zero_le _)
 rw[show DM N w (DO N w) N s1 0=DO N w s2 from e2]
 unfold DO
 obtain⟨v,hv⟩:=IR hN (p:=w.s.In) (by omega)
 rw[hv,Option.bind_some]
 obtain⟨s,⟨i1,i2,i3⟩,e⟩:=E5 w.b.Places.length (λn i (s:Int×Int×List Av×List (List Int)×List Int)=>CC N w n s.1 s.2.1 i s.2.2.1 s.2.2.2.1 s.2.2.2.2) (λs=>some (s.2.2.2.1,s.2.2.2.2,s.2.2.1)) (λk s=>KO w.b.Places.length W s.2.2.2.1∧s.2.2.2.2.length=W∧s.2.2.1.length≤w.moves.length+k) (λn k s hk=>by
  simp only[CC];rw[E7 hk];rfl) (λn k s hi hk=>by
  obtain⟨a,c,ms,o,inn⟩:=s
  obtain⟨i1,i2,i3⟩:=hi
  simp only at i1 i2 i3
  have hj:∀m:Int,∃s':Int×Int×List Av×List (List Int)×List Int,(KO w.b.Places.length W s'.2.2.2.1∧s'.2.2.2.2.length=W∧s'.2.2.1.length≤w.moves.length+(k+1))∧FK N w a c (k:Int) ms o inn (EO N (k:Int) (CC N w n)) m=CC N w n s'.1 s'.2.1 ((k+1:Nat):Int) s'.2.2.1 s'.2.2.2.1 s'.2.2.2.2:=λm=>by
   unfold FK EO
   rw[BH (by omega)]
   cases decide (m≤0)
   ·obtain⟨x,hx,hxl⟩:=i1.ix hk
    obtain⟨x0,hx0⟩:=Df.ix (l:=x) (i:=0) (Int.le_refl _) (by omega)
    obtain⟨y0,hy0⟩:=Df.ix (l:=inn) (i:=0) (Int.le_refl _) (by omega)
    obtain⟨z0,hz0⟩:=Df.ix (l:=List.replicate ((w.b.Owners.length:Int)).toNat (0:Int)) (i:=0) (Int.le_refl _) (by rw[Ht];omega)
    rw[cond_false]
    simp only[hx,hx0,hy0,hz0,Option.bind_some]
    rw[JJ (by omega) _ (by decide),JI (by simp;omega)]
    exact⟨(_,_,_,_,_),⟨i1.upd _ (by rw[K0];exact hxl),by show(upd inn _ _).length=W;rw[K0];exact i2,by simp;omega⟩,rfl⟩
   ·exact⟨(a,c,ms,o,inn),⟨i1,i2,by show ms.length≤_;omega⟩,rfl⟩
  simp only[CC]
  rw[E6 hk,cond_true]
  cases hr:decide ((k:Int)<(w.in_.Rain.length:Int))
  ·exact hj 0
  ·have hr:=of_decide_eq_true hr
   rw[cond_true,BQ (show k<w.in_.Rain.length by omega),Option.bind_some]
   exact hj _) N 0 (s2,v,w.moves,w.s.Own,w.s.In) ⟨ho,hin,by show w.moves.length≤_;omega⟩ (by omega) (Nat.zero_le _)
 exact⟨_,e,i1,i2,i3⟩
theorem Ye {N:Nat}(hN:1000000<N) {P W:Nat}(hP:P≤64) (hW:W≤16) {q:List Az}(hq:q.length≤1000) (hqp:∀l∈q,l.Part.length=W) (t:Int):
  ∃r,Jc N q t (P:Int) (W:Int)=some r∧KO P W r.1∧r.2.length≤q.length:=by
 unfold Jc
 rw[Lx,Option.bind_some,Lx,Option.bind_some,if_neg (show ¬(P:Int)<0 by omega),if_neg (show ¬64<(P:Int) by omega),if_neg (show ¬(W:Int)<0 by omega),if_neg (show ¬16<(W:Int) by omega),JJ (by omega) _ (by decide)]
 obtain⟨o,⟨i1,i2⟩,e⟩:=E5 P (λn i l=>FH N (P:Int) (W:Int) (FI N q t (P:Int)) n i l) (FI N q t (P:Int)) (λk (l:List (List Int))=>l.length=P∧∀i x,i<k→l[i]? =some x→x.length=W) (λn k l hk=>by
  simp only[FH];rw[Lp,E7 hk];rfl) (λn k l hi hk=>by
  simp only[FH]
  have hkl:k<l.length:=by rw[hi.1];exact hk
  rw[Lp,E6 hk,cond_true,JJ (by omega) _ (by decide)]
  simp only[BQ hkl,Option.bind_some]
  rw[BH (by omega)]
  refine⟨_,⟨by rw[K0];exact hi.1,λi x hik hx=>?_⟩,rfl⟩
  by_cases hne:k=i
  ·subst hne
   rw[M1 hkl] at hx
   cases hx
   exact Lp _ _
  ·rw[P8 hne] at hx
   exact hi.2 i x (by omega) hx) N 0 (List.replicate ((P:Int)).toNat ([]:List Int)) ⟨Lp _ _,λi x hi=>by omega⟩ (by omega) (Nat.zero_le _)
 rw[show FH N (P:Int) (W:Int) (FI N q t (P:Int)) N 0 _=FI N q t (P:Int) o from e]
 have ho:KO P W o:=⟨i1,λx hx=>by
  obtain⟨i,hi⟩:=List.mem_iff_getElem?.1 hx
  exact i2 i x (by rw[←i1];exact(List.getElem?_eq_some_iff.1 hi).1) hi⟩
 unfold FI
 obtain⟨s,⟨j1,j2⟩,e2⟩:=E5 q.length (λn i (s:List Az×List (List Int))=>Eb N q t (P:Int) (GS N) n s.1 i s.2) (λs=>GS N s.1 s.2) (λk s=>KO P W s.2∧s.1.length≤k) (λn k s hk=>by
  simp only[Eb];rw[E7 hk];rfl) (λn k s hi hk=>by
  obtain⟨rs,o⟩:=s
  obtain⟨j1,j2⟩:=hi
  simp only at j1 j2
  simp only[Eb,H4]
  have hpl:=hqp _ (List.getElem_mem hk)
  rw[E6 hk,cond_true,BQ hk,Option.bind_some,BH (by omega)]
  generalize q[k]=x at hpl
  cases hb:((decide (x.At≤t)&&decide (0≤x.To))&&decide (x.To<(P:Int)))
  ·rw[cond_false,J3 N (by omega),Option.bind_some,JI (by simp;omega)]
   exact⟨(_,_),⟨j1,by simp;omega⟩,rfl⟩
  ·simp only[Bool.and_eq_true,decide_eq_true_eq] at hb
   obtain⟨j,hj,hjl⟩:=Z5 (l:=o) hb.1.2 (by rw[j1.len];exact hb.2)
   obtain⟨y,hy,hyl⟩:=j1.ix (k:=j) (by rw[←j1.len];exact hjl)
   obtain⟨z,hz,hzl⟩:=Ou hN (p:=y) (q:=x.Part) (by omega) (by omega)
   rw[cond_true,hj]
   simp only[hy,Option.bind_some]
   rw[hz,Option.bind_some]
   exact⟨(_,_),⟨j1.upd _ (by rw[hzl,hyl,hpl,Nat.max_self]),by show rs.length≤_;omega⟩,rfl⟩) N 0 ([],o) ⟨ho,Nat.le_refl _⟩ (by omega) (Nat.zero_le _)
 exact⟨_,e2,j1,j2⟩
def YQ (pk:List Int) (i:Int):Int:=pk.getD i.toNat 0
theorem Up {pk:List Int}{i:Int}(h0:0≤i) (h1:i<pk.length):ix pk i=some (YQ pk i):=by
 obtain⟨n,rfl,hn⟩:=Z5 h0 h1
 rw[BQ hn];simp [YQ,List.getD_eq_getElem?_getD,hn]
theorem Rr {N:Nat}(hN:1000000<N) {w:Ai}{W:Nat}(hW:w.b.Owners.length=W) (h16:W≤16) (hP:w.b.Places.length≤64) (hL:w.b.Links.length≤96) (hlk:∀l∈w.b.Links,Ip w.b l) (ho:KO w.b.Places.length W w.s.Own) (hq:w.s.Queue.length≤1000) (hqp:∀l∈w.s.Queue,l.Part.length=W) (hpk:w.peaks.length=w.b.Places.length) {g:Nat→Ak}(hg:P4 w.b.Links.length w.s.Gates g):
  ∃r,Fk N w=some r∧KO w.b.Places.length W r.1∧r.2.1.length≤w.s.Queue.length∧r.2.2.2.length=w.b.Places.length∧P4 w.b.Links.length r.2.2.1 (λk=>gS N (PP w.b k) (g k) (YQ r.2.2.2 (PP w.b k).From)):=by
 unfold Fk
 rw[hW]
 obtain⟨y,hy,hy1,hy2⟩:=Ye hN hP h16 hq hqp w.s.Hour
 rw[hy,Option.bind_some]
 obtain⟨s,⟨i1,i2⟩,e⟩:=E5 w.b.Places.length (λn i (s:List (List Int)×List Int)=>CR N w y (CS N w y) n i s.1 s.2) (λs=>CS N w y s.1 s.2) (λk s=>KO w.b.Places.length W s.1∧s.2.length=w.b.Places.length) (λn k s hk=>by
  simp only[CR];rw[E7 hk];rfl) (λn k s hi hk=>by
  obtain⟨o,pk⟩:=s
  obtain⟨i1,i2⟩:=hi
  simp only at i1 i2
  simp only[CR]
  obtain⟨a,ha,hal⟩:=i1.ix hk
  obtain⟨c,hc,hcl⟩:=hy1.ix hk
  obtain⟨d,hd,hdl⟩:=Ou hN (p:=a) (q:=c) (by omega) (by omega)
  have hdl:d.length=W:=by rw[hdl,hal,hcl,Nat.max_self]
  obtain⟨f,hf,hfl⟩:=(i1.upd (k:Int) hdl).ix hk
  obtain⟨t,ht⟩:=IR hN (p:=f) (by omega)
  rw[E6 hk,cond_true,BH (by omega)]
  simp only[ha,hc,Option.bind_some]
  rw[hd,Option.bind_some]
  simp only[hf,Option.bind_some]
  rw[ht,Option.bind_some]
  simp only[BQ (show k<pk.length by omega),Option.bind_some]
  exact⟨(_,_),⟨i1.upd _ hdl,by show(upd pk _ _).length=_;rw[K0];exact i2⟩,rfl⟩) N 0 (w.s.Own,w.peaks) ⟨ho,hpk⟩ (by omega) (Nat.zero_le _)
 rw[show CR N w y (CS N w y) N 0 w.s.Own w.peaks=CS N w y s.1 s.2 from e]
 obtain⟨o,pk⟩:=s
 simp only at i1 i2 ⊢
 unfold CS
 obtain⟨gs,j1,e2⟩:=E5 w.b.Links.length (λn i s=>CF N w y o pk n i s) (λs=>some (o,y.2,s,pk)) (λi s=>P4 w.b.Links.length s (λk=>if k<i then gS N (PP w.b k) (g k) (YQ pk (PP w.b k).From) else g k)) (λn k s hk=>by
  simp only[CF];rw[E7 hk];rfl) (λn i s hi hk=>by
  simp only[CF,Et]
  have ok:=hlk _ (List.getElem_mem hk)
  rw[E6 hk,cond_true,BQ hk,Option.bind_some,BH (by omega)]
  have hgi:=hi.ix hk
  rw[if_neg (Nat.lt_irrefl i)] at hgi
  by_cases h3:(w.b.Links[i]).Kind=3
  ·rw[decide_eq_true h3,cond_true]
   simp only[hgi,Option.bind_some]
   rw[Up ok.fr.1 (by rw[i2];exact ok.fr.2)]
   simp only[Option.bind_some]
   rw[(TB N _ _ _).1,Option.bind_some]
   refine⟨_,hi.upd hk _ ?_ λk hkl hne=>?_,rfl⟩
   ·rw[if_pos (Nat.lt_succ_self i),Nn hk]
   ·by_cases h:k<i
    ·rw[if_pos h,if_pos (by omega)]
    ·rw[if_neg h,if_neg (by omega)]
  ·rw[decide_eq_false h3,cond_false]
   refine⟨s,hi.congr λk hkl=>?_,rfl⟩
   by_cases hne:k=i
   ·subst hne
    rw[if_pos (Nat.lt_succ_self k),if_neg (Nat.lt_irrefl k),Nn hk,(TB N _ _ _).2.2 h3]
   ·by_cases h:k<i
    ·rw[if_pos h,if_pos (by omega)]
    ·rw[if_neg h,if_neg (by omega)]) N 0 w.s.Gates (hg.congr λk _=>by rw[if_neg (Nat.not_lt_zero k)]) (by omega) (Nat.zero_le _)
 exact⟨_,e2,i1,hy2,i2,j1.congr λk hk=>by rw[if_pos hk]⟩
end Go.Proofs.YtblcgjadhemlbaaGreat
