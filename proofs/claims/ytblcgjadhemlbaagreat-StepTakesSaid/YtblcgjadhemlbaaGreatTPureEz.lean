import Derived.Test.YtblcgjadhemlbaaGreatTPureEy
import Derived.Test.YtblcgjadhemlbaaGreatTPureGt
namespace Go.Proofs.YtblcgjadhemlbaaGreat
open Go.RowKit
set_option linter.unusedVariables false
set_option linter.unusedSimpArgs false
structure I1 (P W:Nat) (o:List (List Int)):Prop where
 len:o.length=P
 all:∀x∈o,PX W x
def Fy (o:List (List Int)):Int:=(o.map List.sum).sum
def HY (q:List Av):Int:=(q.map λl=>l.Part.sum).sum
theorem I1.ix {P W:Nat}{o:List (List Int)}(h:I1 P W o) {k:Nat}(hk:k<P):∃x,Go.Proofs.YtblcgjadhemlbaaGreat.ix o (k:Int)=some x∧o[k]? =some x∧PX W x:=by
 obtain⟨x,e,hm⟩:=kG (l:=o) (i:=k) (by rw[h.len];exact hk)
 exact⟨x,e,by rw[BH (by rw[h.len];exact hk)] at e;rw[List.getElem?_eq_getElem (by rw[h.len];exact hk)];exact e,h.all x hm⟩
theorem I1.upd {P W:Nat}{o:List (List Int)}(h:I1 P W o) (i:Int) {x:List Int}(hx:PX W x):I1 P W (upd o i x):=
 ⟨by rw[L3];exact h.len,λy hy=>by
  rcases List.mem_or_eq_of_mem_set hy with hy|rfl
  ·exact h.all y hy
  ·exact hx⟩
theorem I1.nn {P W:Nat}{o:List (List Int)}(h:I1 P W o):∀x∈o.map List.sum,0≤x:=λx hx=>by
 obtain⟨y,hy,rfl⟩:=List.mem_map.1 hx
 exact(h.all y hy).sum0
theorem Nl {o:List (List Int)}{k:Nat}{x y:List Int}(hk:o[k]? =some x):Fy (upd o (k:Int) y)=Fy o-x.sum+y.sum:=by
 have hl:=(List.getElem?_eq_some_iff.1 hk).1
 have hx:=(List.getElem?_eq_some_iff.1 hk).2
 unfold Fy upd
 rw[Int.toNat_natCast,List.map_set,NZ (by simpa using hl),List.getElem_map,hx]
theorem I1.le {P W:Nat}{o:List (List Int)}(h:I1 P W o) {k:Nat}{x:List Int}(hk:o[k]? =some x):x.sum≤Fy o:=HN h.nn _ (List.mem_map.2 ⟨x,List.mem_of_getElem? hk,rfl⟩)
theorem I1.sum0 {P W:Nat}{o:List (List Int)}(h:I1 P W o):0≤Fy o:=Ip h.nn
theorem LO {o:List (List Int)}{k:Nat}(h:k<o.length):Fy (o.take (k+1))=Fy (o.take k)+(o[k]).sum:=OI h
theorem Jc {q:List Av}{k:Nat}(h:k<q.length):HY (q.take (k+1))=HY (q.take k)+(q[k]).Part.sum:=OI (f:=λl:Av=>l.Part.sum) h
theorem Lg {P W:Nat}{o:List (List Int)}(h:I1 P W o) (k:Nat):0≤Fy (o.take k)∧Fy (o.take k)≤Fy o:=by
 have:=Hp h.nn k
 rw[←List.map_take] at this
 exact this
def QX (P W:Nat) (q:List Av):Prop:=∀l∈q,PX W l.Part∧0≤l.To∧l.To<P
theorem QX.nn {P W:Nat}{q:List Av}(h:QX P W q):∀x∈q.map (λl=>l.Part.sum),0≤x:=λx hx=>by
 obtain⟨y,hy,rfl⟩:=List.mem_map.1 hx
 exact(h y hy).1.sum0
theorem Hs {P W:Nat}{q:List Av}(h:QX P W q) (k:Nat):0≤HY (q.take k)∧HY (q.take k)≤HY q:=by
 have:=Hp h.nn k
 rw[←List.map_take] at this
 exact this
def v1 (W:Nat) (n:Int):List Int:=upd (List.replicate W 0) 0 n
theorem NJ (W:Nat) (n:Int):(v1 W n).length=W:=by unfold v1;rw[L3];simp
theorem PW {W:Nat}(h:1≤W) (n:Int):(v1 W n).sum=n:=by
 unfold v1 upd
 rw[show (0:Int).toNat=0 from rfl,NZ (by simp;omega)]
 simp
theorem Vm {W:Nat}(h:1≤W) {n:Int}(h0:0≤n) (h1:n≤1125899906842624):PX W (v1 W n):=
 ⟨NJ W n,λx hx=>by
  rcases List.mem_or_eq_of_mem_set hx with hx|rfl
  ·rw[(List.mem_replicate.1 hx).2];exact Int.le_refl 0
  ·exact h0,by rw[PW h];exact h1⟩
theorem Q4 (W:Nat):v1 W 0=List.replicate W 0:=by
 unfold v1 upd
 apply List.ext_getElem?
 intro i
 by_cases h:0=i
 ·subst h
  rcases Nat.eq_zero_or_pos W with h|h
  ·subst h;rfl
  ·rw[show (0:Int).toNat=0 from rfl,List.getElem?_set_self (by simp;omega),List.getElem?_replicate,if_pos h]
 ·rw[show (0:Int).toNat=0 from rfl,List.getElem?_set_ne h]
theorem Qa {W:Nat}{p:List Int}(h:p.length=W):Fg p (List.replicate W 0)=p:=by
 apply List.ext_getElem?
 intro i
 rw[Fg,List.getElem?_zipWith,List.getElem?_replicate]
 rcases Nat.lt_or_ge i W with hi|hi
 ·rw[if_pos hi,List.getElem?_eq_getElem (by omega)];simp
 ·rw[if_neg (by omega),List.getElem?_eq_none (show p.length≤i by omega)]
theorem PV:∀(p q r:List Int),Fg (Fg p q) r=Fg p (Fg q r)
 |[],_,_=>by simp [Fg]
 |_::_,[],_=>by simp [Fg]
 |_::_,_::_,[]=>by simp [Fg]
 |a::p,b::q,c::r=>by
  have:=PV p q r
  simp only[Fg,List.zipWith_cons_cons] at this ⊢
  rw[this,Int.add_assoc]
theorem UA {W:Nat}{p:List Int}(h:p.length=W) (h1:1≤W) (n x:Int) (hx:ix p 0=some x):upd p 0 (x+n)=Fg p (v1 W n):=by
 have hx0:p[0]? =some x:=(Ft hx).2
 apply List.ext_getElem?
 intro i
 unfold v1 upd
 rw[Fg,List.getElem?_zipWith,show(0:Int).toNat=0 from rfl]
 by_cases hi:0=i
 ·subst hi
  rw[List.getElem?_set_self (by omega),List.getElem?_set_self (by simp;omega),hx0]
 ·rw[List.getElem?_set_ne hi,List.getElem?_set_ne hi,List.getElem?_replicate]
  rcases Nat.lt_or_ge i W with hi|hi
  ·rw[if_pos hi,List.getElem?_eq_getElem (show i<p.length by omega)];simp
  ·rw[if_neg (by omega),List.getElem?_eq_none (show p.length≤i by omega)]
theorem Zq {W:Nat}(h1:1≤W) (a b:Int):Fg (v1 W a) (v1 W b)=v1 W (a+b):=by
 apply List.ext_getElem?
 intro i
 rw[Fg,List.getElem?_zipWith]
 unfold v1 upd
 rw[show (0:Int).toNat=0 from rfl]
 by_cases hi:0=i
 ·subst hi
  rw[List.getElem?_set_self (by simp;omega),List.getElem?_set_self (by simp;omega),List.getElem?_set_self (by simp;omega)]
 ·rw[List.getElem?_set_ne hi,List.getElem?_set_ne hi,List.getElem?_set_ne hi,List.getElem?_replicate]
  by_cases hw:i<W<;>simp [hw]
def RH (H:Int) (W:Nat):Nat→List Int→List Ah
 |_,[]=>[]
 |i,n::l=>(if 0<n then [⟨H, -1,(i:Int), -4,v1 W n⟩] else [])++RH H W (i+1) l
theorem Pj (H:Int) (W:Nat) (n:Int):∀(l:List Int) (i:Nat),RH H W i (l++[n])=RH H W i l++(if 0<n then [⟨H, -1,((i+l.length:Nat):Int), -4,v1 W n⟩] else [])
 |[],i=>by simp [RH]
 |a::l,i=>by
  have e:i+(a::l).length=i+1+l.length:=by simp;omega
  rw[List.cons_append,RH,Pj H W n l (i+1),RH,e,List.append_assoc]
theorem RG (H:Int) (W:Nat):∀(l:List Int) (i:Nat),(RH H W i l).length≤l.length
 |[],_=>by simp [RH]
 |a::l,i=>by
  have:=RG H W l (i+1)
  rw[RH,List.length_append]
  split<;>simp<;>omega
structure jU (w:An) (W k:Nat) (l:List Int) (s:Int×Int×List Ah×List (List Int)×List Int):Prop where
 ll:l.length=k
 l0:∀n∈l,0≤n
 ms:s.2.2.1=RH w.s.Hour W 0 l
 own:I1 w.b.Places.length W s.2.2.2.1
 lo:∀(i:Nat) x n,w.s.Own[i]? =some x→l[i]? =some n→s.2.2.2.1[i]? =some (Fg x (v1 W n))
 hi:∀i,k≤i→s.2.2.2.1[i]? =w.s.Own[i]?
 th:s.1=Fy s.2.2.2.1+HY w.s.Queue∧s.1≤1125899906842624
 inn:s.2.2.2.2=Fg w.s.In (v1 W l.sum)
 en:s.2.1=w.s.In.sum+l.sum∧s.2.1≤1152921504606846976
 os:Fy s.2.2.2.1=Fy w.s.Own+l.sum
theorem X8 {N:Nat}(hN:1000000<N) {w:An}{W:Nat}(hW:w.b.Owners.length=W) (h1:1≤W) (h16:W≤16) (hP:w.b.Places.length≤64) (ho:I1 w.b.Places.length W w.s.Own) (hq:w.s.Queue.length≤1000) (hqx:QX w.b.Places.length W w.s.Queue) (ht:Fy w.s.Own+HY w.s.Queue≤1125899906842624) (hin:w.s.In.length=W) (hin0:∀x∈w.s.In,0≤x) (hins:w.s.In.sum≤1152921504606846976) (hm:w.moves=[]):
  ∃l r,Hc N w=some (r.2.2.2.1,r.2.2.2.2,r.2.2.1)∧jU w W w.b.Places.length l r:=by
 have hol:=ho.len
 have hq0:=(Hs hqx 0).2
 rw[List.take_zero,show HY ([]:List Av)=0 from rfl] at hq0
 unfold Hc
 obtain⟨s1,i1,e1⟩:=D8 w.s.Own.length (λn i s=>DP N w (DR N w) n s i) (DR N w) (λk s=>s=Fy (w.s.Own.take k)) (λn k s hk=>by
  simp only[DP];rw[E0 hk];rfl) (λn k s hi hk=>by
  have hx:=ho.all _ (List.getElem_mem hk)
  have h2:=Lg ho (k+1)
  rw[LO hk] at h2
  have h3:=hx.sum0
  have h4:=(Lg ho k).1
  simp only[DP]
  rw[Eu hk,cond_true,BH hk,Option.bind_some,Option.bind_some,hx.total hN (by omega),Option.bind_some,BL (by omega),Dm (n:=s+(w.s.Own[k]).sum) (by omega) (by omega)]
  exact⟨_,by rw[LO hk,hi],rfl⟩) N 0 0 rfl (by omega) (Nat.zero_le _)
 rw[show DP N w (DR N w) N 0 0=DR N w s1 from e1]
 rw[List.take_length] at i1
 have ho0:=ho.sum0
 unfold DR
 obtain⟨s2,i2,e2⟩:=D8 w.s.Queue.length (λn i s=>DO N w (DQ N w) n s i) (DQ N w) (λk s=>s=Fy w.s.Own+HY (w.s.Queue.take k)) (λn k s hk=>by
  simp only[DO];rw[E0 hk];rfl) (λn k s hi hk=>by
  have hx:=(hqx _ (List.getElem_mem hk)).1
  have h2:=Hs hqx (k+1)
  rw[Jc hk] at h2
  have h3:=hx.sum0
  have h4:=(Hs hqx k).1
  simp only[DO]
  rw[Eu hk,cond_true,BH hk,Option.bind_some,hx.total hN (by omega),Option.bind_some,BL (by omega),Dm (n:=s+(w.s.Queue[k]).Part.sum) (by omega) (by omega)]
  exact⟨_,by rw[Jc hk,hi];omega,rfl⟩) N 0 s1 (by rw[i1,List.take_zero];simp [HY]) (by omega) (Nat.zero_le _)
 rw[show DO N w (DQ N w) N s1 0=DQ N w s2 from e2]
 rw[List.take_length] at i2
 have hi0:=Ip hin0
 unfold DQ
 rw[SQ hN (by omega) hin0 (by omega),Option.bind_some]
 obtain⟨s,⟨l,i3⟩,e⟩:=D8 w.b.Places.length (λn i (s:Int×Int×List Ah×List (List Int)×List Int)=>CI N w n s.1 s.2.1 i s.2.2.1 s.2.2.2.1 s.2.2.2.2) (λs=>some (s.2.2.2.1,s.2.2.2.2,s.2.2.1)) (λk s=>∃l,jU w W k l s) (λn k s hk=>by
  simp only[CI];rw[E0 hk];rfl) (λn k s hi hk=>by
  obtain⟨a,c,ms,o,inn⟩:=s
  obtain⟨l,⟨q1,q2,q3,q4,q5,q6,⟨q7,q8⟩,q9,⟨q10,q11⟩,q12⟩⟩:=hi
  simp only at q3 q4 q5 q6 q7 q8 q9 q10 q11 q12
  have hos:=q4.sum0
  have hls:=Ip q2
  obtain⟨x,hx,hxk,hxp⟩:=q4.ix hk
  obtain⟨x1,hx1,hx1k,hx1p⟩:=ho.ix hk
  have hxe:x=x1:=by rw[q6 k (Nat.le_refl _),hx1k] at hxk;exact(Option.some.inj hxk).symm
  have hj:∀m:Int,m≤1125899906842624-a→m≤1152921504606846976-c→∃s':Int×Int×List Ah×List (List Int)×List Int,(∃l,jU w W (k+1) l s')∧Fa N w a c (k:Int) ms o inn (EZ N (k:Int) (CI N w n)) m=CI N w n s'.1 s'.2.1 ((k+1:Nat):Int) s'.2.2.1 s'.2.2.2.1 s'.2.2.2.2:=λm hm1 hm2=>by
   unfold Fa EZ
   rw[BL (by omega)]
   by_cases hm0:m≤0
   ·rw[decide_eq_true hm0,cond_true]
    refine⟨(a,c,ms,o,inn),⟨l++[0],by simp [q1],λn hn=>?_,?_,q4,λi y n hy hn=>?_,λi hi=>q6 i (by omega),⟨q7,q8⟩,by rw[List.sum_append];simpa using q9,⟨by rw[List.sum_append];simpa using q10,q11⟩,by rw[List.sum_append];simpa using q12⟩,rfl⟩
    ·rcases List.mem_append.1 hn with hn|hn
     ·exact q2 n hn
     ·rw[List.mem_singleton.1 hn];exact Int.le_refl 0
    ·show ms=_
     rw[Pj,if_neg (by omega),List.append_nil];exact q3
    ·show o[i]? =_
     by_cases hik:i<k
     ·rw[List.getElem?_append_left (by omega)] at hn
      exact q5 i y n hy hn
     ·have hik2:i=k:=by
       have:=(List.getElem?_eq_some_iff.1 hn).1
       simp at this;omega
      subst hik2
      rw[List.getElem?_append_right (by omega),q1,Nat.sub_self] at hn
      cases hn
      rw[Q4,Qa (ho.all y (List.mem_of_getElem? hy)).len,q6 i (Nat.le_refl _),hy]
   ·have hxs:=q4.le hxk
    have hv:=Vm h1 (n:=m) (by omega) (by omega)
    have hvs:=PW h1 m
    obtain⟨x0,hx0⟩:=Df.ix (l:=x) (i:=0) (Int.le_refl _) (by rw[hxp.len];omega)
    have hx0m:=hxp.mem (List.mem_of_getElem? (Ft hx0).2)
    have hinl:inn.length=W:=by rw[q9];exact MF hin (NJ _ _)
    obtain⟨y0,hy0⟩:=Df.ix (l:=inn) (i:=0) (Int.le_refl _) (by omega)
    have hinn0:∀z∈inn,0≤z:=by
     rw[q9]
     refine Q3 hin0 λz hz=>?_
     rcases List.mem_or_eq_of_mem_set hz with hz|rfl
     ·rw[(List.mem_replicate.1 hz).2];exact Int.le_refl 0
     ·exact hls
    have hins2:inn.sum=c:=by rw[q9,Js (by rw[hin,NJ]),PW h1,q10]
    have hy0m:=HN hinn0 _ (List.mem_of_getElem? (Ft hy0).2)
    have hy00:=hinn0 _ (List.mem_of_getElem? (Ft hy0).2)
    obtain⟨z0,hz0⟩:=Df.ix (l:=List.replicate ((w.b.Owners.length:Int)).toNat (0:Int)) (i:=0) (Int.le_refl _) (by rw[Le];omega)
    have hml:=RG w.s.Hour W l 0
    rw[decide_eq_false hm0,cond_false,hx,Option.bind_some,Option.bind_some,hx0,Option.bind_some,Option.bind_some,hy0,Option.bind_some,Option.bind_some,Option.bind_some,Option.bind_some,Jd (by omega) _ (by decide),hz0,Option.bind_some,Option.bind_some,Jb (by rw[q3];simp;omega),Dm (n:=a+m) (by omega) (by omega),Dm (n:=c+m) (by omega) (by omega),Dm (n:=x0+m) (by omega) (by omega),Dm (n:=y0+m) (by omega) (by omega),UA hxp.len h1 m x0 hx0,UA hinl h1 m y0 hy0]
    have hxv:PX W (Fg x (v1 W m)):=hxp.add hv (by rw[hvs];omega)
    have hos2:Fy (upd o (k:Int) (Fg x (v1 W m)))=Fy o+m:=by
     rw[Nl hxk,Js (hxp.len.trans hv.len.symm),hvs];omega
    have hrp:List.replicate ((w.b.Owners.length:Int)).toNat (0:Int)=List.replicate W 0:=by rw[hW];rfl
    refine⟨(a+m,c+m,ms++[⟨w.s.Hour, -1,(k:Int), -4,upd (List.replicate ((w.b.Owners.length:Int)).toNat (0:Int)) 0 m⟩],upd o (k:Int) (Fg x (v1 W m)),Fg inn (v1 W m)),⟨l++[m],by simp [q1],λn hn=>?_,?_,q4.upd _ hxv,λi y n hy hn=>?_,λi hi=>?_,⟨?_,by show a+m≤_;omega⟩,?_,⟨?_,by show c+m≤_;omega⟩,?_⟩,rfl⟩
    ·rcases List.mem_append.1 hn with hn|hn
     ·exact q2 n hn
     ·rw[List.mem_singleton.1 hn];omega
    ·show ms++_=_
     rw[Pj,if_pos (by omega),q3,hrp,Nat.zero_add,q1];rfl
    ·show(upd o (k:Int) _)[i]? =_
     by_cases hik:k=i
     ·subst hik
      rw[List.getElem?_append_right (by omega),q1,Nat.sub_self] at hn
      cases hn
      rw[Fi (by rw[q4.len];exact hk),hxe]
      rw[hx1k] at hy
      cases hy
      rfl
     ·have hik2:i<l.length:=by
       have:=(List.getElem?_eq_some_iff.1 hn).1
       simp at this;omega
      rw[Hr hik]
      rw[List.getElem?_append_left hik2] at hn
      exact q5 i y n hy hn
    ·show(upd o (k:Int) _)[i]? =_
     rw[Hr (by omega)];exact q6 i (by omega)
    ·show a+m=Fy _+_
     rw[hos2];omega
    ·show Fg inn (v1 W m)=_
     rw[q9,List.sum_append,PV]
     rw[Zq h1];simp
    ·show c+m=_
     rw[List.sum_append,q10];simp;omega
    ·show Fy _=_
     rw[hos2,q12,List.sum_append];simp;omega
  simp only[CI]
  rw[Eu hk,cond_true]
  cases hr:decide ((k:Int)<(w.in_.Rain.length:Int))
  ·exact hj 0 (by omega) (by omega)
  ·have hr:=of_decide_eq_true hr
   have hc0:0≤c:=by omega
   rw[cond_true,BH (show k<w.in_.Rain.length by omega),Option.bind_some,Dm (n:=1125899906842624-a) (by omega) (by omega),Dm (n:=1152921504606846976-c) (by omega) (by omega)]
   exact hj _ (by omega) (by omega)) N 0 (s2,w.s.In.sum,w.moves,w.s.Own,w.s.In) ⟨[],rfl,λn hn=>(by cases hn),hm,ho,λi x n _ hn=>(by cases hn),λi _=>rfl,⟨by show s2=_;rw[i2],by show s2≤_;omega⟩,by
    show w.s.In=Fg _ (v1 W 0)
    rw[Q4,Qa hin],⟨by show w.s.In.sum=_;simp,hins⟩,by simp⟩ (by omega) (Nat.zero_le _)
 exact⟨l,s,e,i3⟩
end Go.Proofs.YtblcgjadhemlbaaGreat
