import Derived.Test.YtblcgjadhemlbaaGreatRPureEy
import Derived.Test.YtblcgjadhemlbaaGreatRPureGt
namespace Go.Proofs.YtblcgjadhemlbaaGreat
open Go.RowKit
set_option linter.unusedVariables false
set_option linter.unusedSimpArgs false
structure I0 (P W:Nat) (o:List (List Int)):Prop where
 len:o.length=P
 all:∀x∈o,PX W x
def Gn (o:List (List Int)):Int:=(o.map List.sum).sum
def IW (q:List Al):Int:=(q.map λl=>l.Part.sum).sum
theorem I0.ix {P W:Nat}{o:List (List Int)}(h:I0 P W o) {k:Nat}(hk:k<P):∃x,Go.Proofs.YtblcgjadhemlbaaGreat.ix o (k:Int)=some x∧o[k]? =some x∧PX W x:=by
 obtain⟨x,e,hm⟩:=jQ (l:=o) (i:=k) (by rw[h.len];exact hk)
 exact⟨x,e,by rw[BI (by rw[h.len];exact hk)] at e;rw[List.getElem?_eq_getElem (by rw[h.len];exact hk)];exact e,h.all x hm⟩
theorem I0.upd {P W:Nat}{o:List (List Int)}(h:I0 P W o) (i:Int) {x:List Int}(hx:PX W x):I0 P W (upd o i x):=
 ⟨by rw[L7];exact h.len,λy hy=>by
  rcases List.mem_or_eq_of_mem_set hy with hy|rfl
  ·exact h.all y hy
  ·exact hx⟩
theorem I0.nn {P W:Nat}{o:List (List Int)}(h:I0 P W o):∀x∈o.map List.sum,0≤x:=λx hx=>by
 obtain⟨y,hy,rfl⟩:=List.mem_map.1 hx
 exact(h.all y hy).sum0
theorem Nq {o:List (List Int)}{k:Nat}{x y:List Int}(hk:o[k]? =some x):Gn (upd o (k:Int) y)=Gn o-x.sum+y.sum:=by
 have hl:=(List.getElem?_eq_some_iff.1 hk).1
 have hx:=(List.getElem?_eq_some_iff.1 hk).2
 unfold Gn upd
 rw[Int.toNat_natCast,List.map_set,PB (by simpa using hl),List.getElem_map,hx]
theorem I0.le {P W:Nat}{o:List (List Int)}(h:I0 P W o) {k:Nat}{x:List Int}(hk:o[k]? =some x):x.sum≤Gn o:=Hy h.nn _ (List.mem_map.2 ⟨x,List.mem_of_getElem? hk,rfl⟩)
theorem I0.sum0 {P W:Nat}{o:List (List Int)}(h:I0 P W o):0≤Gn o:=JK h.nn
theorem LP {o:List (List Int)}{k:Nat}(h:k<o.length):Gn (o.take (k+1))=Gn (o.take k)+(o[k]).sum:=OM h
theorem Kd {q:List Al}{k:Nat}(h:k<q.length):IW (q.take (k+1))=IW (q.take k)+(q[k]).Part.sum:=OM (f:=λl:Al=>l.Part.sum) h
theorem Li {P W:Nat}{o:List (List Int)}(h:I0 P W o) (k:Nat):0≤Gn (o.take k)∧Gn (o.take k)≤Gn o:=by
 have:=HJ h.nn k
 rw[←List.map_take] at this
 exact this
def QX (P W:Nat) (q:List Al):Prop:=∀l∈q,PX W l.Part∧0≤l.To∧l.To<P
theorem QX.nn {P W:Nat}{q:List Al}(h:QX P W q):∀x∈q.map (λl=>l.Part.sum),0≤x:=λx hx=>by
 obtain⟨y,hy,rfl⟩:=List.mem_map.1 hx
 exact(h y hy).1.sum0
theorem Io {P W:Nat}{q:List Al}(h:QX P W q) (k:Nat):0≤IW (q.take k)∧IW (q.take k)≤IW q:=by
 have:=HJ h.nn k
 rw[←List.map_take] at this
 exact this
def v1 (W:Nat) (n:Int):List Int:=upd (List.replicate W 0) 0 n
theorem ML (W:Nat) (n:Int):(v1 W n).length=W:=by unfold v1;rw[L7];simp
theorem OF {W:Nat}(h:1≤W) (n:Int):(v1 W n).sum=n:=by
 unfold v1 upd
 rw[show (0:Int).toNat=0 from rfl,PB (by simp;omega)]
 simp
theorem Ty {W:Nat}(h:1≤W) {n:Int}(h0:0≤n) (h1:n≤1125899906842624):PX W (v1 W n):=
 ⟨ML W n,λx hx=>by
  rcases List.mem_or_eq_of_mem_set hx with hx|rfl
  ·rw[(List.mem_replicate.1 hx).2];exact Int.le_refl 0
  ·exact h0,by rw[OF h];exact h1⟩
theorem Q4 (W:Nat):v1 W 0=List.replicate W 0:=by
 unfold v1 upd
 apply List.ext_getElem?
 intro i
 by_cases h:0=i
 ·subst h
  rcases Nat.eq_zero_or_pos W with h|h
  ·subst h;rfl
  ·rw[show (0:Int).toNat=0 from rfl,List.getElem?_set_self (by simp;omega),List.getElem?_replicate,if_pos h]
 ·rw[show (0:Int).toNat=0 from rfl,List.getElem?_set_ne h]
theorem Mr {W:Nat}{p:List Int}(h:p.length=W):Fp p (List.replicate W 0)=p:=by
 apply List.ext_getElem?
 intro i
 rw[Fp,List.getElem?_zipWith,List.getElem?_replicate]
 rcases Nat.lt_or_ge i W with hi|hi
 ·rw[if_pos hi,List.getElem?_eq_getElem (by omega)];simp
 ·rw[if_neg (by omega),List.getElem?_eq_none (show p.length≤i by omega)]
theorem NQ:∀(p q r:List Int),Fp (Fp p q) r=Fp p (Fp q r)
 |[],_,_=>by simp [Fp]
 |_::_,[],_=>by simp [Fp]
 |_::_,_::_,[]=>by simp [Fp]
 |a::p,b::q,c::r=>by
  have:=NQ p q r
  simp only[Fp,List.zipWith_cons_cons] at this ⊢
  rw[this,Int.add_assoc]
theorem Tx {W:Nat}{p:List Int}(h:p.length=W) (h1:1≤W) (n x:Int) (hx:ix p 0=some x):upd p 0 (x+n)=Fp p (v1 W n):=by
 have hx0:p[0]? =some x:=(Fw hx).2
 apply List.ext_getElem?
 intro i
 unfold v1 upd
 rw[Fp,List.getElem?_zipWith,show(0:Int).toNat=0 from rfl]
 by_cases hi:0=i
 ·subst hi
  rw[List.getElem?_set_self (by omega),List.getElem?_set_self (by simp;omega),hx0]
 ·rw[List.getElem?_set_ne hi,List.getElem?_set_ne hi,List.getElem?_replicate]
  rcases Nat.lt_or_ge i W with hi|hi
  ·rw[if_pos hi,List.getElem?_eq_getElem (show i<p.length by omega)];simp
  ·rw[if_neg (by omega),List.getElem?_eq_none (show p.length≤i by omega)]
theorem ZY {W:Nat}(h1:1≤W) (a b:Int):Fp (v1 W a) (v1 W b)=v1 W (a+b):=by
 apply List.ext_getElem?
 intro i
 rw[Fp,List.getElem?_zipWith]
 unfold v1 upd
 rw[show (0:Int).toNat=0 from rfl]
 by_cases hi:0=i
 ·subst hi
  rw[List.getElem?_set_self (by simp;omega),List.getElem?_set_self (by simp;omega),List.getElem?_set_self (by simp;omega)]
 ·rw[List.getElem?_set_ne hi,List.getElem?_set_ne hi,List.getElem?_set_ne hi,List.getElem?_replicate]
  by_cases hw:i<W<;>simp [hw]
def RI (H:Int) (W:Nat):Nat→List Int→List Ak
 |_,[]=>[]
 |i,n::l=>(if 0<n then [⟨H, -1,(i:Int), -4,v1 W n⟩] else [])++RI H W (i+1) l
theorem Pg (H:Int) (W:Nat) (n:Int):∀(l:List Int) (i:Nat),RI H W i (l++[n])=RI H W i l++(if 0<n then [⟨H, -1,((i+l.length:Nat):Int), -4,v1 W n⟩] else [])
 |[],i=>by simp [RI]
 |a::l,i=>by
  have e:i+(a::l).length=i+1+l.length:=by simp;omega
  rw[List.cons_append,RI,Pg H W n l (i+1),RI,e,List.append_assoc]
theorem RH (H:Int) (W:Nat):∀(l:List Int) (i:Nat),(RI H W i l).length≤l.length
 |[],_=>by simp [RI]
 |a::l,i=>by
  have:=RH H W l (i+1)
  rw[RI,List.length_append]
  split<;>simp<;>omega
structure jF (w:Aq) (W k:Nat) (l:List Int) (s:Int×Int×List Ak×List (List Int)×List Int):Prop where
 ll:l.length=k
 l0:∀n∈l,0≤n
 ms:s.2.2.1=RI w.s.Hour W 0 l
 own:I0 w.b.Places.length W s.2.2.2.1
 lo:∀(i:Nat) x n,w.s.Own[i]? =some x→l[i]? =some n→s.2.2.2.1[i]? =some (Fp x (v1 W n))
 hi:∀i,k≤i→s.2.2.2.1[i]? =w.s.Own[i]?
 th:s.1=Gn s.2.2.2.1+IW w.s.Queue∧s.1≤1125899906842624
 inn:s.2.2.2.2=Fp w.s.In (v1 W l.sum)
 en:s.2.1=w.s.In.sum+l.sum∧s.2.1≤1152921504606846976
 os:Gn s.2.2.2.1=Gn w.s.Own+l.sum
theorem Xp {N:Nat}(hN:1000000<N) {w:Aq}{W:Nat}(hW:w.b.Owners.length=W) (h1:1≤W) (h16:W≤16) (hP:w.b.Places.length≤64) (ho:I0 w.b.Places.length W w.s.Own) (hq:w.s.Queue.length≤1000) (hqx:QX w.b.Places.length W w.s.Queue) (ht:Gn w.s.Own+IW w.s.Queue≤1125899906842624) (hin:w.s.In.length=W) (hin0:∀x∈w.s.In,0≤x) (hins:w.s.In.sum≤1152921504606846976) (hm:w.moves=[]):
  ∃l r,Hk N w=some (r.2.2.2.1,r.2.2.2.2,r.2.2.1)∧jF w W w.b.Places.length l r:=by
 have hol:=ho.len
 have hq0:=(Io hqx 0).2
 rw[List.take_zero,show IW ([]:List Al)=0 from rfl] at hq0
 unfold Hk
 obtain⟨s1,i1,e1⟩:=DZ w.s.Own.length (λn i s=>DR N w (DU N w) n s i) (DU N w) (λk s=>s=Gn (w.s.Own.take k)) (λn k s hk=>by
  simp only[DR];rw[Eh hk];rfl) (λn k s hi hk=>by
  have hx:=ho.all _ (List.getElem_mem hk)
  have h2:=Li ho (k+1)
  rw[LP hk] at h2
  have h3:=hx.sum0
  have h4:=(Li ho k).1
  simp only[DR]
  rw[Ee hk,cond_true,BI hk,Option.bind_some,Option.bind_some,hx.total hN (by omega),Option.bind_some,BF (by omega),EF (n:=s+(w.s.Own[k]).sum) (by omega) (by omega)]
  exact⟨_,by rw[LP hk,hi],rfl⟩) N 0 0 rfl (by omega) (Nat.zero_le _)
 rw[show DR N w (DU N w) N 0 0=DU N w s1 from e1]
 rw[List.take_length] at i1
 have ho0:=ho.sum0
 unfold DU
 obtain⟨s2,i2,e2⟩:=DZ w.s.Queue.length (λn i s=>DQ N w (DT N w) n s i) (DT N w) (λk s=>s=Gn w.s.Own+IW (w.s.Queue.take k)) (λn k s hk=>by
  simp only[DQ];rw[Eh hk];rfl) (λn k s hi hk=>by
  have hx:=(hqx _ (List.getElem_mem hk)).1
  have h2:=Io hqx (k+1)
  rw[Kd hk] at h2
  have h3:=hx.sum0
  have h4:=(Io hqx k).1
  simp only[DQ]
  rw[Ee hk,cond_true,BI hk,Option.bind_some,hx.total hN (by omega),Option.bind_some,BF (by omega),EF (n:=s+(w.s.Queue[k]).Part.sum) (by omega) (by omega)]
  exact⟨_,by rw[Kd hk,hi];omega,rfl⟩) N 0 s1 (by rw[i1,List.take_zero];simp [IW]) (by omega) (Nat.zero_le _)
 rw[show DQ N w (DT N w) N s1 0=DT N w s2 from e2]
 rw[List.take_length] at i2
 have hi0:=JK hin0
 unfold DT
 rw[SG hN (by omega) hin0 (by omega),Option.bind_some]
 obtain⟨s,⟨l,i3⟩,e⟩:=DZ w.b.Places.length (λn i (s:Int×Int×List Ak×List (List Int)×List Int)=>CJ N w n s.1 s.2.1 i s.2.2.1 s.2.2.2.1 s.2.2.2.2) (λs=>some (s.2.2.2.1,s.2.2.2.2,s.2.2.1)) (λk s=>∃l,jF w W k l s) (λn k s hk=>by
  simp only[CJ];rw[Eh hk];rfl) (λn k s hi hk=>by
  obtain⟨a,c,ms,o,inn⟩:=s
  obtain⟨l,⟨q1,q2,q3,q4,q5,q6,⟨q7,q8⟩,q9,⟨q10,q11⟩,q12⟩⟩:=hi
  simp only at q3 q4 q5 q6 q7 q8 q9 q10 q11 q12
  have hos:=q4.sum0
  have hls:=JK q2
  obtain⟨x,hx,hxk,hxp⟩:=q4.ix hk
  obtain⟨x1,hx1,hx1k,hx1p⟩:=ho.ix hk
  have hxe:x=x1:=by rw[q6 k (Nat.le_refl _),hx1k] at hxk;exact(Option.some.inj hxk).symm
  have hj:∀m:Int,m≤1125899906842624-a→m≤1152921504606846976-c→∃s':Int×Int×List Ak×List (List Int)×List Int,(∃l,jF w W (k+1) l s')∧Ff N w a c (k:Int) ms o inn (Ei N (k:Int) (CJ N w n)) m=CJ N w n s'.1 s'.2.1 ((k+1:Nat):Int) s'.2.2.1 s'.2.2.2.1 s'.2.2.2.2:=λm hm1 hm2=>by
   unfold Ff Ei
   rw[BF (by omega)]
   by_cases hm0:m≤0
   ·rw[decide_eq_true hm0,cond_true]
    refine⟨(a,c,ms,o,inn),⟨l++[0],by simp [q1],λn hn=>?_,?_,q4,λi y n hy hn=>?_,λi hi=>q6 i (by omega),⟨q7,q8⟩,by rw[List.sum_append];simpa using q9,⟨by rw[List.sum_append];simpa using q10,q11⟩,by rw[List.sum_append];simpa using q12⟩,rfl⟩
    ·rcases List.mem_append.1 hn with hn|hn
     ·exact q2 n hn
     ·rw[List.mem_singleton.1 hn];exact Int.le_refl 0
    ·show ms=_
     rw[Pg,if_neg (by omega),List.append_nil];exact q3
    ·show o[i]? =_
     by_cases hik:i<k
     ·rw[List.getElem?_append_left (by omega)] at hn
      exact q5 i y n hy hn
     ·have hik2:i=k:=by
       have:=(List.getElem?_eq_some_iff.1 hn).1
       simp at this;omega
      subst hik2
      rw[List.getElem?_append_right (by omega),q1,Nat.sub_self] at hn
      cases hn
      rw[Q4,Mr (ho.all y (List.mem_of_getElem? hy)).len,q6 i (Nat.le_refl _),hy]
   ·have hxs:=q4.le hxk
    have hv:=Ty h1 (n:=m) (by omega) (by omega)
    have hvs:=OF h1 m
    obtain⟨x0,hx0⟩:=Df.ix (l:=x) (i:=0) (Int.le_refl _) (by rw[hxp.len];omega)
    have hx0m:=hxp.mem (List.mem_of_getElem? (Fw hx0).2)
    have hinl:inn.length=W:=by rw[q9];exact Kg hin (ML _ _)
    obtain⟨y0,hy0⟩:=Df.ix (l:=inn) (i:=0) (Int.le_refl _) (by omega)
    have hinn0:∀z∈inn,0≤z:=by
     rw[q9]
     refine Nf hin0 λz hz=>?_
     rcases List.mem_or_eq_of_mem_set hz with hz|rfl
     ·rw[(List.mem_replicate.1 hz).2];exact Int.le_refl 0
     ·exact hls
    have hins2:inn.sum=c:=by rw[q9,HH (by rw[hin,ML]),OF h1,q10]
    have hy0m:=Hy hinn0 _ (List.mem_of_getElem? (Fw hy0).2)
    have hy00:=hinn0 _ (List.mem_of_getElem? (Fw hy0).2)
    obtain⟨z0,hz0⟩:=Df.ix (l:=List.replicate ((w.b.Owners.length:Int)).toNat (0:Int)) (i:=0) (Int.le_refl _) (by rw[Lh];omega)
    have hml:=RH w.s.Hour W l 0
    rw[decide_eq_false hm0,cond_false,hx,Option.bind_some,Option.bind_some,hx0,Option.bind_some,Option.bind_some,hy0,Option.bind_some,Option.bind_some,Option.bind_some,Option.bind_some,Jo (by omega) _ (by decide),hz0,Option.bind_some,Option.bind_some,Ia (by rw[q3];simp;omega),EF (n:=a+m) (by omega) (by omega),EF (n:=c+m) (by omega) (by omega),EF (n:=x0+m) (by omega) (by omega),EF (n:=y0+m) (by omega) (by omega),Tx hxp.len h1 m x0 hx0,Tx hinl h1 m y0 hy0]
    have hxv:PX W (Fp x (v1 W m)):=hxp.add hv (by rw[hvs];omega)
    have hos2:Gn (upd o (k:Int) (Fp x (v1 W m)))=Gn o+m:=by
     rw[Nq hxk,HH (hxp.len.trans hv.len.symm),hvs];omega
    have hrp:List.replicate ((w.b.Owners.length:Int)).toNat (0:Int)=List.replicate W 0:=by rw[hW];rfl
    refine⟨(a+m,c+m,ms++[⟨w.s.Hour, -1,(k:Int), -4,upd (List.replicate ((w.b.Owners.length:Int)).toNat (0:Int)) 0 m⟩],upd o (k:Int) (Fp x (v1 W m)),Fp inn (v1 W m)),⟨l++[m],by simp [q1],λn hn=>?_,?_,q4.upd _ hxv,λi y n hy hn=>?_,λi hi=>?_,⟨?_,by show a+m≤_;omega⟩,?_,⟨?_,by show c+m≤_;omega⟩,?_⟩,rfl⟩
    ·rcases List.mem_append.1 hn with hn|hn
     ·exact q2 n hn
     ·rw[List.mem_singleton.1 hn];omega
    ·show ms++_=_
     rw[Pg,if_pos (by omega),q3,hrp,Nat.zero_add,q1];rfl
    ·show(upd o (k:Int) _)[i]? =_
     by_cases hik:k=i
     ·subst hik
      rw[List.getElem?_append_right (by omega),q1,Nat.sub_self] at hn
      cases hn
      rw[Fo (by rw[q4.len];exact hk),hxe]
      rw[hx1k] at hy
      cases hy
      rfl
     ·have hik2:i<l.length:=by
       have:=(List.getElem?_eq_some_iff.1 hn).1
       simp at this;omega
      rw[Hx hik]
      rw[List.getElem?_append_left hik2] at hn
      exact q5 i y n hy hn
    ·show(upd o (k:Int) _)[i]? =_
     rw[Hx (by omega)];exact q6 i (by omega)
    ·show a+m=Gn _+_
     rw[hos2];omega
    ·show Fp inn (v1 W m)=_
     rw[q9,List.sum_append,NQ]
     rw[ZY h1];simp
    ·show c+m=_
     rw[List.sum_append,q10];simp;omega
    ·show Gn _=_
     rw[hos2,q12,List.sum_append];simp;omega
  simp only[CJ]
  rw[Ee hk,cond_true]
  cases hr:decide ((k:Int)<(w.in_.Rain.length:Int))
  ·exact hj 0 (by omega) (by omega)
  ·have hr:=of_decide_eq_true hr
   have hc0:0≤c:=by omega
   rw[cond_true,BI (show k<w.in_.Rain.length by omega),Option.bind_some,EF (n:=1125899906842624-a) (by omega) (by omega),EF (n:=1152921504606846976-c) (by omega) (by omega)]
   exact hj _ (by omega) (by omega)) N 0 (s2,w.s.In.sum,w.moves,w.s.Own,w.s.In) ⟨[],rfl,λn hn=>(by cases hn),hm,ho,λi x n _ hn=>(by cases hn),λi _=>rfl,⟨by show s2=_;rw[i2],by show s2≤_;omega⟩,by
    show w.s.In=Fp _ (v1 W 0)
    rw[Q4,Mr hin],⟨by show w.s.In.sum=_;simp,hins⟩,by simp⟩ (by omega) (Nat.zero_le _)
 exact⟨l,s,e,i3⟩
end Go.Proofs.YtblcgjadhemlbaaGreat
