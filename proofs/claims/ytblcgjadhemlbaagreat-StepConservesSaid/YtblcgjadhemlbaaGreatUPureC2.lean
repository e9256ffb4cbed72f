import Derived.Test.YtblcgjadhemlbaaGreatUPureC1
namespace Go.Proofs.YtblcgjadhemlbaaGreat
open Go.RowKit
set_option linter.unusedVariables false
set_option linter.unusedSimpArgs false
def gk (R:List Int) (k:Nat):Int:=min (max (R.getD k 0) 0) 1125899906842624
def Ob (R:List Int):Nat→Int
 |0=>0
 |k+1=>Ob R k+gk R k
def Tu (R l:List Int):Prop:=∀(i:Nat) n,l[i]? =some n→n≤gk R i
theorem Tu.snoc {R l:List Int}(h:Tu R l) {k:Nat}(hk:l.length=k) {n:Int}(hn:n≤gk R k):Tu R (l++[n]):=λi x hx=>by
 rcases Nat.lt_or_ge i k with hi|hi
 ·rw[List.getElem?_append_left (by omega)] at hx
  exact h i x hx
 ·have h2:=(List.getElem?_eq_some_iff.1 hx).1
  rw[List.length_append,List.length_singleton] at h2
  have h3:i=k:=by omega
  subst h3
  rw[List.getElem?_append_right (by omega),hk,Nat.sub_self] at hx
  cases hx
  exact hn
theorem Tu.take {R l:List Int}(h:Tu R l):∀d k,k+d≤l.length→Ob R k-(l.take k).sum≤Ob R (k+d)-(l.take (k+d)).sum
 |0,k,_=>Int.le_refl _
 |d+1,k,hk=>by
  have ih:=Tu.take h d k (by omega)
  have h1:=h (k+d) _ (List.getElem?_eq_getElem (show k+d<l.length by omega))
  rw[show k+(d+1)=(k+d)+1 by omega,H2 (show k+d<l.length by omega)]
  simp only[Ob]
  omega
theorem Tu.sum {R l:List Int}(h:Tu R l):l.sum≤Ob R l.length:=by
 have:=Tu.take h l.length 0 (by omega)
 rw[Nat.zero_add,List.take_length,List.take_zero] at this
 simp only[Ob,List.sum_nil] at this
 omega
theorem YD {N:Nat}(hN:1000000<N) {w:Aj}{W:Nat}(hW:w.b.Owners.length=W) (h1:1≤W) (h16:W≤16) (hP:w.b.Places.length≤64) (ho:HM w.b.Places.length W w.s.Own) (hq:w.s.Queue.length≤1000) (hqx:QX w.b.Places.length W w.s.Queue) (ht:Dy w.s.Own+Ex w.s.Queue≤1125899906842624) (hin:w.s.In.length=W) (hin0:∀x∈w.s.In,0≤x) (hins:w.s.In.sum≤1152921504606846976) (hm:w.moves=[]):
  ∃l r,Hb N w=some (r.2.2.2.1,r.2.2.2.2,r.2.2.1)∧kD w W w.b.Places.length l r∧Tu w.in_.Rain l∧(l.sum=Ob w.in_.Rain w.b.Places.length∨r.1=1125899906842624∨r.2.1=1152921504606846976):=by
 have hol:=ho.len
 have hq0:=(Eq hqx 0).2
 rw[List.take_zero,show Ex ([]:List Ao)=0 from rfl] at hq0
 unfold Hb
 obtain⟨s1,i1,e1⟩:=Da w.s.Own.length (λn i s=>DK N w (DM N w) n s i) (DM N w) (λk s=>s=Dy (w.s.Own.take k)) (λn k s hk=>by
  simp only[DK];rw[Ey hk];rfl) (λn k s hi hk=>by
  have hx:=ho.all _ (List.getElem_mem hk)
  have h2:=KO ho (k+1)
  rw[KT hk] at h2
  have h3:=hx.sum0
  have h4:=(KO ho k).1
  simp only[DK]
  rw[Ea hk,cond_true,BA hk,Option.bind_some,Option.bind_some,hx.total hN (by omega),Option.bind_some,BE (by omega),DB (n:=s+(w.s.Own[k]).sum) (by omega) (by omega)]
  exact⟨_,by rw[KT hk,hi],rfl⟩) N 0 0 rfl (by omega) (Nat.zero_le _)
 rw[show DK N w (DM N w) N 0 0=DM N w s1 from e1]
 rw[List.take_length] at i1
 have ho0:=ho.sum0
 unfold DM
 obtain⟨s2,i2,e2⟩:=Da w.s.Queue.length (λn i s=>DJ N w (DL N w) n s i) (DL N w) (λk s=>s=Dy w.s.Own+Ex (w.s.Queue.take k)) (λn k s hk=>by
  simp only[DJ];rw[Ey hk];rfl) (λn k s hi hk=>by
  have hx:=(hqx _ (List.getElem_mem hk)).1
  have h2:=Eq hqx (k+1)
  rw[Jd hk] at h2
  have h3:=hx.sum0
  have h4:=(Eq hqx k).1
  simp only[DJ]
  rw[Ea hk,cond_true,BA hk,Option.bind_some,hx.total hN (by omega),Option.bind_some,BE (by omega),DB (n:=s+(w.s.Queue[k]).Part.sum) (by omega) (by omega)]
  exact⟨_,by rw[Jd hk,hi];omega,rfl⟩) N 0 s1 (by rw[i1,List.take_zero];simp [Ex]) (by omega) (Nat.zero_le _)
 rw[show DJ N w (DL N w) N s1 0=DL N w s2 from e2]
 rw[List.take_length] at i2
 have hi0:=Hr hin0
 unfold DL
 rw[SI hN (by omega) hin0 (by omega),Option.bind_some]
 obtain⟨s,⟨l,i3,i4⟩,e⟩:=Da w.b.Places.length (λn i (s:Int×Int×List Ae×List (List Int)×List Int)=>CD N w n s.1 s.2.1 i s.2.2.1 s.2.2.2.1 s.2.2.2.2) (λs=>some (s.2.2.2.1,s.2.2.2.2,s.2.2.1)) (λk s=>∃l,kD w W k l s∧Tu w.in_.Rain l∧(l.sum=Ob w.in_.Rain k∨s.1=1125899906842624∨s.2.1=1152921504606846976)) (λn k s hk=>by
  simp only[CD];rw[Ey hk];rfl) (λn k s hi hk=>by
  obtain⟨a,c,ms,o,inn⟩:=s
  obtain⟨l,⟨q1,q2,q3,q4,q5,q6,⟨q7,q8⟩,q9,⟨q10,q11⟩,q12⟩,qp,qm⟩:=hi
  simp only at q3 q4 q5 q6 q7 q8 q9 q10 q11 q12 qm
  have hos:=q4.sum0
  have hls:=Hr q2
  obtain⟨x,hx,hxk,hxp⟩:=q4.ix hk
  obtain⟨x1,hx1,hx1k,hx1p⟩:=ho.ix hk
  have hxe:x=x1:=by rw[q6 k (Nat.le_refl _),hx1k] at hxk;exact(Option.some.inj hxk).symm
  have hj:∀m:Int,m≤1125899906842624-a→m≤1152921504606846976-c→(max m 0≤gk w.in_.Rain k∧(l.sum+max m 0=Ob w.in_.Rain (k+1)∨a+max m 0=1125899906842624∨c+max m 0=1152921504606846976))→∃s':Int×Int×List Ae×List (List Int)×List Int,(∃l,kD w W (k+1) l s'∧Tu w.in_.Rain l∧(l.sum=Ob w.in_.Rain (k+1)∨s'.1=1125899906842624∨s'.2.1=1152921504606846976))∧FY N w a c (k:Int) ms o inn (ES N (k:Int) (CD N w n)) m=CD N w n s'.1 s'.2.1 ((k+1:Nat):Int) s'.2.2.1 s'.2.2.2.1 s'.2.2.2.2:=λm hm1 hm2 hm3=>by
   unfold FY ES
   rw[BE (by omega)]
   by_cases hm0:m≤0
   ·rw[decide_eq_true hm0,cond_true]
    refine⟨(a,c,ms,o,inn),⟨l++[0],⟨by simp [q1],λn hn=>?_,?_,q4,λi y n hy hn=>?_,λi hi=>q6 i (by omega),⟨q7,q8⟩,by rw[List.sum_append];simpa using q9,⟨by rw[List.sum_append];simpa using q10,q11⟩,by rw[List.sum_append];simpa using q12⟩,qp.snoc q1 (by omega),by show _∨a=_∨c=_;rw[show (l++[(0:Int)]).sum=l.sum by simp];omega⟩,rfl⟩
    ·rcases List.mem_append.1 hn with hn|hn
     ·exact q2 n hn
     ·rw[List.mem_singleton.1 hn];exact Int.le_refl 0
    ·show ms=_
     rw[Pc,if_neg (by omega),List.append_nil];exact q3
    ·show o[i]? =_
     by_cases hik:i<k
     ·rw[List.getElem?_append_left (by omega)] at hn
      exact q5 i y n hy hn
     ·have hik2:i=k:=by
       have:=(List.getElem?_eq_some_iff.1 hn).1
       simp at this;omega
      subst hik2
      rw[List.getElem?_append_right (by omega),q1,Nat.sub_self] at hn
      cases hn
      rw[T7,QV (ho.all y (List.mem_of_getElem? hy)).len,q6 i (Nat.le_refl _),hy]
   ·have hxs:=q4.le hxk
    have hv:=Vn h1 (n:=m) (by omega) (by omega)
    have hvs:=NF h1 m
    obtain⟨x0,hx0⟩:=Df.ix (l:=x) (i:=0) (Int.le_refl _) (by rw[hxp.len];omega)
    have hx0m:=hxp.mem (List.mem_of_getElem? (Fq hx0).2)
    have hinl:inn.length=W:=by rw[q9];exact Js hin (KW _ _)
    obtain⟨y0,hy0⟩:=Df.ix (l:=inn) (i:=0) (Int.le_refl _) (by omega)
    have hinn0:∀z∈inn,0≤z:=by
     rw[q9]
     refine NU hin0 λz hz=>?_
     rcases List.mem_or_eq_of_mem_set hz with hz|rfl
     ·rw[(List.mem_replicate.1 hz).2];exact Int.le_refl 0
     ·exact hls
    have hins2:inn.sum=c:=by rw[q9,H1 (by rw[hin,KW]),NF h1,q10]
    have hy0m:=Gk hinn0 _ (List.mem_of_getElem? (Fq hy0).2)
    have hy00:=hinn0 _ (List.mem_of_getElem? (Fq hy0).2)
    obtain⟨z0,hz0⟩:=Df.ix (l:=List.replicate ((w.b.Owners.length:Int)).toNat (0:Int)) (i:=0) (Int.le_refl _) (by rw[Lf];omega)
    have hml:=RH w.s.Hour W l 0
    rw[decide_eq_false hm0,cond_false,hx,Option.bind_some,Option.bind_some,hx0,Option.bind_some,Option.bind_some,hy0,Option.bind_some,Option.bind_some,Option.bind_some,Option.bind_some,I5 (by omega) _ (by decide),hz0,Option.bind_some,Option.bind_some,Jc (by rw[q3];simp;omega),DB (n:=a+m) (by omega) (by omega),DB (n:=c+m) (by omega) (by omega),DB (n:=x0+m) (by omega) (by omega),DB (n:=y0+m) (by omega) (by omega),T6 hxp.len h1 m x0 hx0,T6 hinl h1 m y0 hy0]
    have hxv:PX W (E0 x (v1 W m)):=hxp.add hv (by rw[hvs];omega)
    have hos2:Dy (upd o (k:Int) (E0 x (v1 W m)))=Dy o+m:=by
     rw[Ng hxk,H1 (hxp.len.trans hv.len.symm),hvs];omega
    have hrp:List.replicate ((w.b.Owners.length:Int)).toNat (0:Int)=List.replicate W 0:=by rw[hW];rfl
    refine⟨(a+m,c+m,ms++[⟨w.s.Hour, -1,(k:Int), -4,upd (List.replicate ((w.b.Owners.length:Int)).toNat (0:Int)) 0 m⟩],upd o (k:Int) (E0 x (v1 W m)),E0 inn (v1 W m)),⟨l++[m],⟨by simp [q1],λn hn=>?_,?_,q4.upd _ hxv,λi y n hy hn=>?_,λi hi=>?_,⟨?_,by show a+m≤_;omega⟩,?_,⟨?_,by show c+m≤_;omega⟩,?_⟩,qp.snoc q1 (by omega),by show _∨a+m=_∨c+m=_;rw[show (l++[m]).sum=l.sum+m by simp];omega⟩,rfl⟩
    ·rcases List.mem_append.1 hn with hn|hn
     ·exact q2 n hn
     ·rw[List.mem_singleton.1 hn];omega
    ·show ms++_=_
     rw[Pc,if_pos (by omega),q3,hrp,Nat.zero_add,q1];rfl
    ·show(upd o (k:Int) _)[i]? =_
     by_cases hik:k=i
     ·subst hik
      rw[List.getElem?_append_right (by omega),q1,Nat.sub_self] at hn
      cases hn
      rw[FQ (by rw[q4.len];exact hk),hxe]
      rw[hx1k] at hy
      cases hy
      rfl
     ·have hik2:i<l.length:=by
       have:=(List.getElem?_eq_some_iff.1 hn).1
       simp at this;omega
      rw[Gy hik]
      rw[List.getElem?_append_left hik2] at hn
      exact q5 i y n hy hn
    ·show(upd o (k:Int) _)[i]? =_
     rw[Gy (by omega)];exact q6 i (by omega)
    ·show a+m=Dy _+_
     rw[hos2];omega
    ·show E0 inn (v1 W m)=_
     rw[q9,List.sum_append,PQ]
     rw[Zw h1];simp
    ·show c+m=_
     rw[List.sum_append,q10];simp;omega
    ·show Dy _=_
     rw[hos2,q12,List.sum_append];simp;omega
  simp only[CD]
  rw[Ea hk,cond_true]
  cases hr:decide ((k:Int)<(w.in_.Rain.length:Int))
  ·have hr:=of_decide_eq_false hr
   have hgd:w.in_.Rain.getD k 0=0:=by rw[List.getD_eq_getElem?_getD,List.getElem?_eq_none (by omega)];rfl
   exact hj 0 (by omega) (by omega) (by simp only[Ob,gk,hgd];omega)
  ·have hr:=of_decide_eq_true hr
   have hc0:0≤c:=by omega
   rw[cond_true,BA (show k<w.in_.Rain.length by omega),Option.bind_some,DB (n:=1125899906842624-a) (by omega) (by omega),DB (n:=1152921504606846976-c) (by omega) (by omega)]
   have hgd:w.in_.Rain.getD k 0=w.in_.Rain[k]:=by simp [List.getD_eq_getElem?_getD,show k<w.in_.Rain.length by omega]
   exact hj _ (by omega) (by omega) (by simp only[Ob,gk,hgd];omega)) N 0 (s2,w.s.In.sum,w.moves,w.s.Own,w.s.In) ⟨[],⟨rfl,λn hn=>(by cases hn),hm,ho,λi x n _ hn=>(by cases hn),λi _=>rfl,⟨by show s2=_;rw[i2],by show s2≤_;omega⟩,by
    show w.s.In=E0 _ (v1 W 0)
    rw[T7,QV hin],⟨by show w.s.In.sum=_;simp,hins⟩,by simp⟩,(λi x hx=>by cases hx),.inl rfl⟩ (by omega) (Nat.zero_le _)
 exact⟨l,s,e,i3,i4⟩
structure kK (N:Nat) (b:AW) (s:Ak) (in_:Ct) (o1:List (List Int)) (gs:List Au) (o2:List (List Int)) (inn:List Int) (ms:List Ae) (z:List (List Int)×List Ao×List Au×List Int) (ns:List Int):Prop where
 eg:GF N (⟨b,in_,s,([]:List Ae),(List.replicate ((b.Places.length:Int)).toNat (0:Int)),([]:List Ao)⟩:Aj)=some gs
 ez:E8 N (⟨b,in_,(⟨s.Hour,o2,s.Rem,s.Queue,gs,inn,s.Out⟩:Ak),ms,(List.replicate ((b.Places.length:Int)).toNat (0:Int)),([]:List Ao)⟩:Aj)=some z
 nl:ns.length=b.Places.length
 n0:∀n∈ns,0≤n
 ms_:ms=TN s.Hour b.Owners.length 0 ns
 at3:∀(p:Nat) x n,o1[p]? =some x→ns[p]? =some n→z.1[p]? =some (E0 (E0 x (v1 b.Owners.length n)) (KP b.Owners.length s.Hour s.Queue p))
 own:HM b.Places.length b.Owners.length z.1
 rest:z.2.1=JY s.Hour s.Queue
 pk:z.2.2.2=z.1.map List.sum
 gl:z.2.2.1.length=b.Links.length
 inn_:inn=E0 s.In (v1 b.Owners.length ns.sum)
 tot:Dy z.1+Ex (JY s.Hour s.Queue)=Dy s.Own+Ex s.Queue+ns.sum
 tot2:Dy s.Own+Ex s.Queue+ns.sum≤1125899906842624
 pw:Tu in_.Rain ns
 max_:ns.sum=Ob in_.Rain b.Places.length∨Dy s.Own+Ex s.Queue+ns.sum=1125899906842624∨s.In.sum+ns.sum=1152921504606846976
 ins:s.In.sum+ns.sum≤1152921504606846976
theorem V6 {N:Nat}(hN:18446744073709551616<N) {b:AW}(hb:G1 b) (hlk:∀l∈b.Links,JP b l) (hpls:∀p∈b.Places,IJ b p) {s:Ak}(hs:iX b s) (hq:s.Queue.length≤1000) {in_:Ct}(h1:in_.Faults.length≤1000) (h2:in_.Cmds.length≤1000) (h3:in_.Takes.length≤1000) {o1:List (List Int)}(h4:∀gs:List Au,DQ N (⟨b,in_,({ s with Gates:=gs}:Ak),([]:List Ae),(List.replicate ((b.Places.length:Int)).toNat (0:Int)),([]:List Ao)⟩:Aj)=some o1) (ho1:HM b.Places.length b.Owners.length o1) (hs1:Dy o1=Dy s.Own):
  ∃gs o2 inn ms z ns,Hq N b s in_=Eg N b in_ s (o2,inn,ms) z (Eh N s (o2,inn,ms) z) N 0 z.1 s.Rem s.Out ms ([]:List Ao)∧kK N b s in_ o1 gs o2 inn ms z ns:=by
 have hP:=hb.pl
 have hL:=hb.li
 have hW:=hb.own
 have hW1:=hb.own1
 have hN':1000000<N:=by omega
 unfold Hq
 rw[VY hN' (by have:=hs.own.len;omega) (λx hx=>by have:=(hs.own.all x hx).len;omega) (by have:=hs.rem;omega) (by have:=hs.gates;omega) (by have:=hs.inn;omega) (by have:=hs.out;omega),Option.bind_some,I5 (by omega) _ (by decide)]
 have hg0:U4 b.Links.length s.Gates (kR s):=⟨hs.gates,λk hk=>by
  have:k<s.Gates.length:=by rw[hs.gates];exact hk
  simp [kR,List.getD_eq_getElem?_getD,this]⟩
 obtain⟨gs,eg,hg⟩:=WX hN' (w:=(⟨b,in_,s,([]:List Ae),(List.replicate ((b.Places.length:Int)).toNat (0:Int)),([]:List Ao)⟩:Aj)) rfl (show b.Links.length≤1000 by omega) h1 h2 hg0
 rw[eg,Option.bind_some]
 have hsw:=h4 gs
 rw[hsw,Option.bind_some]
 obtain⟨ns,⟨a,c,ms,o2,inn⟩,ey,⟨q1,q2,q3,q4,q5,q6,⟨q7,q8⟩,q9,⟨q10,q11⟩,q12⟩,qp,qm⟩:=YD hN' (w:=(⟨b,in_,(⟨s.Hour,o1,s.Rem,s.Queue,gs,s.In,s.Out⟩:Ak),([]:List Ae),(List.replicate ((b.Places.length:Int)).toNat (0:Int)),([]:List Ao)⟩:Aj)) (W:=b.Owners.length) rfl hW1 hW hP ho1 hq hs.que (by show Dy o1+Ex s.Queue≤_;rw[hs1];exact hs.tot) hs.inn hs.inn0 hs.inns rfl
 simp only at q1 q2 q3 q4 q5 q6 q7 q8 q9 q10 q11 q12 qm ey
 rw[ey,Option.bind_some]
 obtain⟨z,ez,⟨hz1,hz2,hz3,hz4,hz5⟩,hz6⟩:=bG hN' (w:=(⟨b,in_,(⟨s.Hour,o2,s.Rem,s.Queue,gs,inn,s.Out⟩:Ak),ms,(List.replicate ((b.Places.length:Int)).toNat (0:Int)),([]:List Ao)⟩:Aj)) (W:=b.Owners.length) rfl hW hP hL hlk q4 hq hs.que (by show Dy o2+Ex s.Queue≤_;omega) (Lf _ _) hg.1
 simp only at hz1 hz2 hz3 hz4 hz5 hz6
 rw[ez,Option.bind_some]
 exact⟨gs,o2,inn,ms,z,ns,rfl,⟨eg,ez,q1,q2,q3,λp x n hx hn=>hz2 p _ (q5 p x n hx hn),hz1,hz3,hz4,hz6,q9,by rw[←hz3];omega,by omega,qp,by omega,by omega⟩⟩
theorem X4 {N:Nat}(hN:18446744073709551616<N) {b:AW}(hb:G1 b) (hlk:∀l∈b.Links,JP b l) (hpls:∀p∈b.Places,IJ b p) {s:Ak}(hs:iX b s) (hq:s.Queue.length≤1000) {in_:Ct}(h1:in_.Faults.length≤1000) (h2:in_.Cmds.length≤1000) (h3:in_.Takes.length≤1000) {o1:List (List Int)}(h4:∀gs:List Au,DQ N (⟨b,in_,({ s with Gates:=gs}:Ak),([]:List Ae),(List.replicate ((b.Places.length:Int)).toNat (0:Int)),([]:List Ao)⟩:Aj)=some o1) (ho1:HM b.Places.length b.Owners.length o1) (hs1:Dy o1=Dy s.Own):
  ∃r ns o3 l,Hq N b s in_=some r∧Qw N b s in_.Takes o1 r ns o3 l∧Dy o3+Ex (JY s.Hour s.Queue)=Dy s.Own+Ex s.Queue+ns.sum∧Tu in_.Rain ns∧(ns.sum=Ob in_.Rain b.Places.length∨Dy s.Own+Ex s.Queue+ns.sum=1125899906842624∨s.In.sum+ns.sum=1152921504606846976)∧s.In.sum+ns.sum≤1152921504606846976:=by
 have hP:=hb.pl
 have hL:=hb.li
 have hW:=hb.own
 have hW1:=hb.own1
 have hN':1000000<N:=by omega
 obtain⟨gs,o2,inn,ms,z,ns,eS,h⟩:=V6 hN hb hlk hpls hs hq h1 h2 h3 h4 ho1 hs1
 have q1:=h.nl
 have q2:=h.n0
 have q3:=h.ms_
 have hz1:=h.own
 have hz3:=h.rest
 have hz4:=h.pk
 have hz6:=h.gl
 have k1:=h.tot
 have k2:=h.tot2
 have hml:=RH s.Hour b.Owners.length ns 0
 obtain⟨⟨o,rm,out,ms',sn⟩,⟨l,i1,i2,i3,i4⟩,e⟩:=Da b.Places.length (λn i (t:List (List Int)×List Int×List Int×List Ae×List Ao)=>Eg N b in_ s (o2,inn,ms) z (Eh N s (o2,inn,ms) z) n i t.1 t.2.1 t.2.2.1 t.2.2.2.1 t.2.2.2.2) (λt=>Eh N s (o2,inn,ms) z t.1 t.2.1 t.2.2.1 t.2.2.2.1 t.2.2.2.2) (λk t=>∃l,t.2.1.length=b.Places.length∧iJ b s.Hour N b.Owners.length k z.1 s.Out ms t.1 t.2.2.1 t.2.2.2.1 t.2.2.2.2 l∧Xh b.Owners.length t.2.2.1 t.2.2.2.1 t.2.2.2.2 (64+k*(in_.Takes.length+b.Links.length+2))∧iW N b s.Hour in_.Takes z.1 k t.1 l) (λn k t hk=>by
  simp only[Eg];rw[Ey hk];rfl) (λn k t hi hk=>by
  obtain⟨o,rm,out,ms',sn⟩:=t
  obtain⟨l,i1,i2,i3,i4⟩:=hi
  simp only at i1 i2 i3 i4
  simp only[Eg]
  have hmul:k*(in_.Takes.length+b.Links.length+2)≤64*(1000+96+2):=Nat.mul_le_mul (by omega) (by omega)
  obtain⟨r,l',er,r1,r2,r3,r5,r4⟩:=Wa hN (w:=(⟨b,in_,(⟨s.Hour,o,rm,z.2.1,z.2.2.1,inn,out⟩:Ak),ms',z.2.2.2,sn⟩:Aj)) (H:=s.Hour) (W:=b.Owners.length) rfl (by omega) (by show b.Links.length≤_;omega) h3 hlk hpls hz6 (by show z.2.2.2.length=_;rw[hz4,List.length_map];exact hz1.len) i1 hk i2.ox i3 (by omega)
  rw[Ea hk,cond_true,er,Option.bind_some,BE (by omega)]
  have hM:64+(k+1)*(in_.Takes.length+b.Links.length+2)=64+k*(in_.Takes.length+b.Links.length+2)+(in_.Takes.length+b.Links.length+2):=by rw[Nat.succ_mul];omega
  exact⟨(_,_,_,_,_),⟨l++l',r1,i2.next r2,by rw[hM];exact i3.next r2 r3,i4.next hk r2 r5 r4⟩,rfl⟩) N 0 (z.1,s.Rem,s.Out,ms,[]) ⟨[],hs.rem,⟨λm hm=>(by cases hm),.nil,by simp,rfl,rfl,rfl,trivial,hz1,hs.out,by simp [HY]⟩,⟨hs.out,by show ms.length≤_;rw[q3];omega,by simp⟩,⟨λp hp=>(by omega),λp _=>⟨rfl,rfl⟩,λp _ hp=>(by omega)⟩⟩ (by omega) (Nat.zero_le _)
 rw[eS,show Eg N b in_ s (o2,inn,ms) z (Eh N s (o2,inn,ms) z) N 0 z.1 s.Rem s.Out ms ([]:List Ao)=Eh N s (o2,inn,ms) z o rm out ms' sn from e]
 simp only at i2 i3
 have hmul:b.Places.length*(in_.Takes.length+b.Links.length+2)≤64*(1000+96+2):=Nat.mul_le_mul hP (by omega)
 have hsn:=i3.sn
 have hmv:=i3.mv
 have hrq:z.2.1.length≤s.Queue.length:=by rw[hz3];exact List.length_filter_le _ _
 unfold Eh
 rw[Jc (by omega)]
 refine⟨_,ns,z.1,l,rfl,⟨q1,by show ms'.length≤_;omega,q2,h.at3,hz1,by omega,hz4,?_,?_,rfl,h.inn_,i4.tk,λp hp x hx=>i4.cap p hp hp x hx⟩,h.tot,h.pw,h.max_,h.ins⟩
 ·rw[←i2.sn_,←q3];exact i2
 ·show z.2.1++sn=_
  rw[hz3,i2.sn_]
end Go.Proofs.YtblcgjadhemlbaaGreat
