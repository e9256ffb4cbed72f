import Derived.Test.YtibidnaedddfdaaGreatCPureSight
import Derived.Test.YtibidnaedddfdaaGreatCInsert
namespace Go.Proofs.YtibidnaedddfdaaGreat
open Go.RowKit
set_option linter.unusedVariables false
set_option linter.unusedSimpArgs false
theorem Lb {N:Nat}(hN:18446744073709551616<N) {b:AJ}(hb:K7 N b) (hp6:b.Places.length≤6) {ins:List BJ}(hi:Nv ins) (hil:ins.length≤100) (sure:List Bool) {h:BT}(hh:YO b h 0) {town:Int}{t:EM}(h0:¬town<0) (ht:ix b.Towns town=some t) (casts:List Be) (hc:∀c∈casts,I2 c) (hcl:casts.length≤100) (hne:casts≠[]) (n:Nat) (hn:n≤24):
  EC N b town h casts ins sure (n:Int)=some ⟨IG (λc=>JA N b ins sure c t n 0 h) (-1) casts,false⟩:=by
 have hlt:=Wa ht
 have hl:casts.length≠0:=λe=>hne (List.eq_nil_of_length_eq_zero e)
 unfold EC Fw
 rw[decide_eq_false h0,decide_eq_false (show ¬(b.Towns.length:Int)≤town by omega)]
 simp only[Bool.or_self,cond_false,ht,Option.bind_some]
 rw[decide_eq_false (show ¬(casts.length:Int)=0 by omega),cond_false,show min (n:Int) 24=(n:Int) by omega]
 exact VR hN hb hp6 hi hil sure t hh casts hc hcl n (by omega)
def Ns (n:Int) (a l:Int):Prop:=(a= -1∧(l= -1∨l=n))∨(0≤a∧a<n∧l=a)
theorem Ns.comb {n a l x y:Int}(hn:0≤n) (h:Ns n a l) (k:Ns n x y):Ns n (comb a x) (comb l y):=by
 unfold Ns Go.Proofs.YtibidnaedddfdaaGreat.comb at*
 (repeat' split)<;>omega
theorem QN {n:Int}(hn:0≤n) {f g:Be→Int}(h:∀c,Ns n (f c) (g c)):∀(l:List Be) (a d:Int),Ns n a d→Ns n (IG f a l) (IG g d l)
 |[],a,d,k=>k
 |c::l,a,d,k=>QN hn h l _ _ (k.comb hn (h c))
theorem Vy (N:Nat) (b:AJ) (ins:List BJ) (sure:List Bool) (c:Be) (t:EM) (n:Nat) (h:BT):Ns n (JA N b ins sure c t n 0 h) (JA N b ins sure c t (n+1) 0 h):=by
 have h1:=Qw N b ins sure c t n (n+1) 0 h (Nat.le_succ _)
 have h2:=LK N b ins sure c t (n+1) 0 h
 have h3:=LK N b ins sure c t n 0 h
 unfold Ns
 split at h1<;>omega
theorem XT {N:Nat}(hN:1000<N) (b:AJ) (casts:List Be) (ins:List BJ):∃v,FV N b casts ins=some v∧(v=true→b.Places.length≤6∧b.Links.length≤6∧casts.length≤3∧ins.length≤6∧∀x∈ins,x.Faults.length≤6∧x.Cmds.length≤6∧x.Takes.length≤6):=by
 unfold FV
 cases hB:(((decide (6<(b.Places.length:Int))||decide (6<(b.Links.length:Int)))||decide (3<(casts.length:Int)))||decide (6<(ins.length:Int)))
 ·simp only[Bool.or_eq_false_iff,decide_eq_false_iff_not] at hB
  rw[cond_false]
  rcases EN ins.length (Ch N ins (D4 N)) (D4 N) (λi=>∀x,ins[i]? =some x→x.Faults.length≤6∧x.Cmds.length≤6∧x.Takes.length≤6) (λn k hk=>by
   simp only[Ch];rw[EA hk];rfl) (λn k hk=>by
   simp only[Ch]
   rw[D9 hk,cond_true,Al hk]
   simp only[Option.bind_some,Dp,Hc,Ae (show k<4611686018427387904 by omega)]
   cases hC:((((decide (6<((ins[k]).Faults.length:Int))||decide (6<((ins[k]).Cmds.length:Int)))||decide (6<((ins[k]).Takes.length:Int)))||decide (6<((ins[k]).Swaps.length:Int)))||decide (8<((ins[k]).Rain.length:Int)))
   ·simp only[Bool.or_eq_false_iff,decide_eq_false_iff_not] at hC
    refine .inr ⟨λx hx=>?_,rfl⟩
    rw[List.getElem?_eq_getElem hk] at hx
    cases hx
    omega
   ·exact .inl rfl) N 0 (by omega) (Nat.zero_le _) with h|⟨h1,h2⟩
  ·exact⟨false,h,λh=>by cases h⟩
  ·refine⟨true,h2,λ_=>⟨by omega,by omega,by omega,by omega,λx hx=>?_⟩⟩
   obtain⟨i,hi⟩:=List.mem_iff_getElem?.1 hx
   exact h1 i (Nat.zero_le _) (List.getElem?_eq_some_iff.1 hi).1 x hi
 ·exact⟨false,rfl,λh=>by cases h⟩
theorem Vn {N:Nat}(hN:2000000<N) (b:AJ) (hb:b.Places.length≤1048576) (casts:List Be) (hc:casts.length≤1048576):∃v,E7 N b casts=some v∧(v=true→∀c∈casts,I2 c):=by
 unfold E7
 rcases EN casts.length (CS N b casts (Dl N)) (Dl N) (λi=>∀c,casts[i]? =some c→I2 c) (λn k hk=>by
  simp only[CS];rw[EA hk];rfl) (λn k hk=>by
  simp only[CS]
  obtain⟨v,ev,hv⟩:=Sg hN b hb casts[k]
  rw[D9 hk,cond_true,Al hk,Option.bind_some,ev,Option.bind_some,Ae (by omega)]
  cases v
  ·exact .inl rfl
  ·refine .inr ⟨λc hc=>?_,rfl⟩
   rw[List.getElem?_eq_getElem hk] at hc
   cases hc
   exact hv rfl) N 0 (by omega) (Nat.zero_le _) with h|⟨h1,h2⟩
 ·exact⟨false,h,λh=>by cases h⟩
 ·refine⟨true,h2,λ_ c hc=>?_⟩
  obtain⟨i,hi⟩:=List.mem_iff_getElem?.1 hc
  exact h1 i (Nat.zero_le _) (List.getElem?_eq_some_iff.1 hi).1 c hi
theorem Vb {N:Nat}(hN:18446744073709551616<N) (hsm:Em N=some true) (b:AJ) (town:Int) (h:BT) (casts:List Be) (ins:List BJ) (ahead:Int) (hpl:b.Places.length≤1048576) (hcl:casts.length≤1048576) (hql:h.Queue.length≤1048576) (hta:∀x∈ins,∀t∈x.Takes,AB t.Litres):D5 N b town h casts ins ahead=some true:=by
 obtain⟨v1,e1,k1⟩:=XT (N:=N) (by omega) b casts ins
 obtain⟨v2,e2,k2⟩:=Vn (N:=N) (by omega) b hpl casts hcl
 unfold D5
 rw[hsm,Option.bind_some,e1,Option.bind_some,e2,Option.bind_some]
 cases hB:((((!v1|| !v2)||decide (ahead<0))||decide (8<ahead))||decide ((casts.length:Int)<2)) with
 |true=>rfl
 |false=>
  simp only[Bool.or_eq_false_iff,Bool.not_eq_false',decide_eq_false_iff_not] at hB
  obtain⟨⟨⟨⟨h1,h2⟩,h3⟩,h4⟩,h5⟩:=hB
  obtain⟨f1,f2,f3,f4,f5⟩:=k1 h1
  have hcs:=k2 h2
  rw[cond_false]
  obtain⟨v,ev,kv⟩:=Pj hN b
  rw[ev,Option.bind_some,Option.bind_some]
  cases v with
  |false=>rfl
  |true=>
   obtain⟨hb,_⟩:=X1 hN ev
   obtain⟨v,e3,k3⟩:=SZ (N:=N) (by omega) b hb.head h (by omega)
   simp only[Bool.not_true,cond_false]
   rw[e3,Option.bind_some,Option.bind_some]
   cases v with
   |false=>rfl
   |true=>
    have hh:=k3.1 rfl
    have hho:=hh.hour
    have hH:YO b h 0:=⟨by omega,hh.vol,hh.vols,hh.que,⟨hh.lks,hh.kn⟩,by omega⟩
    have hi:Nv ins:=λx hx=>⟨(f5 x hx).1,(f5 x hx).2.1,(f5 x hx).2.2,hta x hx⟩
    obtain⟨n,rfl⟩:∃n:Nat,ahead=n:=⟨ahead.toNat,by omega⟩
    have hn:n≤8:=by omega
    have t1:Yg casts 1=some (casts.take 1):=by unfold Yg;rw[if_pos (by omega)];rfl
    have t2:Yh casts 1=some (casts.drop 1):=by unfold Yh;rw[if_pos (by omega)];rfl
    have ne0:casts≠[]:=λe=>by rw[e] at h5;simp at h5
    have ne1:casts.take 1≠[]:=List.ne_nil_of_length_pos (by rw[List.length_take];omega)
    have ne2:casts.drop 1≠[]:=List.ne_nil_of_length_pos (by rw[List.length_drop];omega)
    simp only[Bool.not_true,cond_false]
    rw[show I6 (b.Links.length:Int) (b.Links.length:Int) 1=true by simp [I6];omega]
    simp only[chk,cond_true]
    rw[t1,t2,B1 (by omega) (by omega)]
    simp only[Option.bind_some]
    generalize List.replicate ((b.Links.length:Int):Int).toNat false=sure
    have en:((n:Int)+1)=((n+1:Nat):Int):=rfl
    rw[en]
    by_cases htn:0≤town∧town<b.Towns.length
    ·obtain⟨t,et,_⟩:=SV (l:=b.Towns) htn.1 htn.2
     have tk:∀c∈casts.take 1,I2 c:=λc hc=>hcs c (List.mem_of_mem_take hc)
     have td:∀c∈casts.drop 1,I2 c:=λc hc=>hcs c (List.mem_of_mem_drop hc)
     rw[Lb hN hb f1 hi (by omega) sure hH (by omega) et casts hcs (by omega) ne0 n (by omega),Option.bind_some,Lb hN hb f1 hi (by omega) sure hH (by omega) et _ tk (by rw[List.length_take];omega) ne1 n (by omega),Option.bind_some,Lb hN hb f1 hi (by omega) sure hH (by omega) et _ td (by rw[List.length_drop];omega) ne2 n (by omega),Option.bind_some,Lb hN hb f1 hi (by omega) sure hH (by omega) et casts hcs (by omega) ne0 (n+1) (by omega),Option.bind_some]
     have lo:∀c, -1≤JA N b ins sure c t n 0 h:=λc=>by have:=LK N b ins sure c t n 0 h;omega
     have hrel:=QN (show(0:Int)≤n by omega) (λc=>Vy N b ins sure c t n h) casts (-1) (-1) (.inl ⟨rfl,.inl rfl⟩)
     have hsp:IG (λc=>JA N b ins sure c t n 0 h) (-1) casts=comb (IG (λc=>JA N b ins sure c t n 0 h) (-1) (casts.take 1)) (IG (λc=>JA N b ins sure c t n 0 h) (-1) (casts.drop 1)):=by
      rw[←LO _ lo _ _ (M8 _ _ _ (Int.le_refl _))]
      conv=>lhs;rw[←List.take_append_drop 1 casts]
      unfold IG
      rw[List.foldl_append]
     have lo1:=M8 (λc=>JA N b ins sure c t n 0 h) (casts.take 1) (-1) (Int.le_refl _)
     have lo2:=M8 (λc=>JA N b ins sure c t n 0 h) (casts.drop 1) (-1) (Int.le_refl _)
     simp only[Cb]
     generalize IG (λc=>JA N b ins sure c t n 0 h) (-1) casts=A at*
     generalize IG (λc=>JA N b ins sure c t (n+1) 0 h) (-1) casts=L at*
     generalize IG (λc=>JA N b ins sure c t n 0 h) (-1) (casts.take 1)=O at*
     generalize IG (λc=>JA N b ins sure c t n 0 h) (-1) (casts.drop 1)=R at*
     have fin:∀m:Int,A=m→(((true&&decide (A=m))&&((decide (A<0)&&(decide (L<0)||decide (L=(n:Int))))||(decide (0≤A)&&decide (L=A))))&&decide (A<max (n:Int) 1))=true:=by
      intro m hm
      simp only[Bool.true_and,Bool.and_eq_true,Bool.or_eq_true,decide_eq_true_eq]
      unfold Ns at hrel
      omega
     by_cases hc:0≤R∧(O<0∨R<O)
     ·rw[show (decide (0≤R)&&(decide (O<0)||decide (R<O)))=true by simp only[Bool.and_eq_true,Bool.or_eq_true,decide_eq_true_eq];exact hc,cond_true]
      exact congrArg some (fin R (by rw[hsp];unfold comb;rw[if_pos hc]))
     ·rw[show (decide (0≤R)&&(decide (O<0)||decide (R<O)))=false by rw[Bool.eq_false_iff];simp only[ne_eq,Bool.and_eq_true,Bool.or_eq_true,decide_eq_true_eq];exact hc,cond_false]
      exact congrArg some (fin O (by rw[hsp];unfold comb;rw[if_neg hc]))
    ·have hs:∀(cs:List Be) (a:Int),EC N b town h cs ins sure a=some ⟨-1,false⟩:=λcs a=>by
      unfold EC
      rw[show (decide (town<0)||decide ((b.Towns.length:Int)≤town))=true by simp only[Bool.or_eq_true,decide_eq_true_eq];omega,cond_true]
     simp only[hs,Option.bind_some,Cb]
     rw[show max (n:Int) 1=max (n:Int) 1 from rfl,decide_eq_true (show(-1:Int)<max (n:Int) 1 by omega)]
     rfl
theorem VP:Em BN=some true:=by decide +kernel
theorem Qq (b:AJ) (town:Int) (h:BT) (casts:List Be) (ins:List BJ) (ahead:Int) (hpl:b.Places.length≤1048576) (hcl:casts.length≤1048576) (hql:h.Queue.length≤1048576) (hta:∀x∈ins,∀t∈x.Takes,AB t.Litres):D5 BN b town h casts ins ahead=some true:=Vb (by unfold BN;omega) VP b town h casts ins ahead hpl hcl hql hta
end Go.Proofs.YtibidnaedddfdaaGreat
