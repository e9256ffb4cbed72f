import Derived.Test.YtblcgjadhemlbaaGreatUPureEy
import Derived.Test.YtblcgjadhemlbaaGreatUPureGt
import Derived.Test.YtblcgjadhemlbaaGreatUPureEx
namespace Go.Proofs.YtblcgjadhemlbaaGreat
open Go.RowKit
set_option linter.unusedVariables false
set_option linter.unusedSimpArgs false
structure HM (P W:Nat) (o:List (List Int)):Prop where
 len:o.length=P
 all:∀x∈o,PX W x
def Dy (o:List (List Int)):Int:=(o.map List.sum).sum
def Ex (q:List Ao):Int:=(q.map λl=>l.Part.sum).sum
theorem HM.ix {P W:Nat}{o:List (List Int)}(h:HM P W o) {k:Nat}(hk:k<P):∃x,Go.Proofs.YtblcgjadhemlbaaGreat.ix o (k:Int)=some x∧o[k]? =some x∧PX W x:=by
 obtain⟨x,e,hm⟩:=kQ (l:=o) (i:=k) (by rw[h.len];exact hk)
 exact⟨x,e,by rw[BA (by rw[h.len];exact hk)] at e;rw[List.getElem?_eq_getElem (by rw[h.len];exact hk)];exact e,h.all x hm⟩
theorem HM.upd {P W:Nat}{o:List (List Int)}(h:HM P W o) (i:Int) {x:List Int}(hx:PX W x):HM P W (upd o i x):=
 ⟨by rw[Kt];exact h.len,λy hy=>by
  rcases List.mem_or_eq_of_mem_set hy with hy|rfl
  ·exact h.all y hy
  ·exact hx⟩
theorem HM.nn {P W:Nat}{o:List (List Int)}(h:HM P W o):∀x∈o.map List.sum,0≤x:=λx hx=>by
 obtain⟨y,hy,rfl⟩:=List.mem_map.1 hx
 exact(h.all y hy).sum0
theorem Ng {o:List (List Int)}{k:Nat}{x y:List Int}(hk:o[k]? =some x):Dy (upd o (k:Int) y)=Dy o-x.sum+y.sum:=by
 have hl:=(List.getElem?_eq_some_iff.1 hk).1
 have hx:=(List.getElem?_eq_some_iff.1 hk).2
 unfold Dy upd
 rw[Int.toNat_natCast,List.map_set,La (by simpa using hl),List.getElem_map,hx]
theorem HM.le {P W:Nat}{o:List (List Int)}(h:HM P W o) {k:Nat}{x:List Int}(hk:o[k]? =some x):x.sum≤Dy o:=Gk h.nn _ (List.mem_map.2 ⟨x,List.mem_of_getElem? hk,rfl⟩)
theorem HM.sum0 {P W:Nat}{o:List (List Int)}(h:HM P W o):0≤Dy o:=Hr h.nn
theorem KT {o:List (List Int)}{k:Nat}(h:k<o.length):Dy (o.take (k+1))=Dy (o.take k)+(o[k]).sum:=LO h
theorem Jd {q:List Ao}{k:Nat}(h:k<q.length):Ex (q.take (k+1))=Ex (q.take k)+(q[k]).Part.sum:=LO (f:=λl:Ao=>l.Part.sum) h
theorem KO {P W:Nat}{o:List (List Int)}(h:HM P W o) (k:Nat):0≤Dy (o.take k)∧Dy (o.take k)≤Dy o:=by
 have:=G9 h.nn k
 rw[←List.map_take] at this
 exact this
def QX (P W:Nat) (q:List Ao):Prop:=∀l∈q,PX W l.Part∧0≤l.To∧l.To<P
theorem QX.nn {P W:Nat}{q:List Ao}(h:QX P W q):∀x∈q.map (λl=>l.Part.sum),0≤x:=λx hx=>by
 obtain⟨y,hy,rfl⟩:=List.mem_map.1 hx
 exact(h y hy).1.sum0
theorem Eq {P W:Nat}{q:List Ao}(h:QX P W q) (k:Nat):0≤Ex (q.take k)∧Ex (q.take k)≤Ex q:=by
 have:=G9 h.nn k
 rw[←List.map_take] at this
 exact this
def v1 (W:Nat) (n:Int):List Int:=upd (List.replicate W 0) 0 n
theorem KW (W:Nat) (n:Int):(v1 W n).length=W:=by unfold v1;rw[Kt];simp
theorem NF {W:Nat}(h:1≤W) (n:Int):(v1 W n).sum=n:=by
 unfold v1 upd
 rw[show (0:Int).toNat=0 from rfl,La (by simp;omega)]
 simp
theorem Vn {W:Nat}(h:1≤W) {n:Int}(h0:0≤n) (h1:n≤1125899906842624):PX W (v1 W n):=
 ⟨KW W n,λx hx=>by
  rcases List.mem_or_eq_of_mem_set hx with hx|rfl
  ·rw[(List.mem_replicate.1 hx).2];exact Int.le_refl 0
  ·exact h0,by rw[NF h];exact h1⟩
theorem T7 (W:Nat):v1 W 0=List.replicate W 0:=by
 unfold v1 upd
 apply List.ext_getElem?
 intro i
 by_cases h:0=i
 ·subst h
  rcases Nat.eq_zero_or_pos W with h|h
  ·subst h;rfl
  ·rw[show (0:Int).toNat=0 from rfl,List.getElem?_set_self (by simp;omega),List.getElem?_replicate,if_pos h]
 ·rw[show (0:Int).toNat=0 from rfl,List.getElem?_set_ne h]
theorem QV {W:Nat}{p:List Int}(h:p.length=W):E0 p (List.replicate W 0)=p:=by
 apply List.ext_getElem?
 intro i
 rw[E0,List.getElem?_zipWith,List.getElem?_replicate]
 rcases Nat.lt_or_ge i W with hi|hi
 ·rw[if_pos hi,List.getElem?_eq_getElem (by omega)];simp
 ·rw[if_neg (by omega),List.getElem?_eq_none (show p.length≤i by omega)]
theorem PQ:∀(p q r:List Int),E0 (E0 p q) r=E0 p (E0 q r)
 |[],_,_=>by simp [E0]
 |_::_,[],_=>by simp [E0]
 |_::_,_::_,[]=>by simp [E0]
 |a::p,b::q,c::r=>by
  have:=PQ p q r
  simp only[E0,List.zipWith_cons_cons] at this ⊢
  rw[this,Int.add_assoc]
theorem T6 {W:Nat}{p:List Int}(h:p.length=W) (h1:1≤W) (n x:Int) (hx:ix p 0=some x):upd p 0 (x+n)=E0 p (v1 W n):=by
 have hx0:p[0]? =some x:=(Fq hx).2
 apply List.ext_getElem?
 intro i
 unfold v1 upd
 rw[E0,List.getElem?_zipWith,show(0:Int).toNat=0 from rfl]
 by_cases hi:0=i
 ·subst hi
  rw[List.getElem?_set_self (by omega),List.getElem?_set_self (by simp;omega),hx0]
 ·rw[List.getElem?_set_ne hi,List.getElem?_set_ne hi,List.getElem?_replicate]
  rcases Nat.lt_or_ge i W with hi|hi
  ·rw[if_pos hi,List.getElem?_eq_getElem (show i<p.length by omega)];simp
  ·rw[if_neg (by omega),List.getElem?_eq_none (show p.length≤i by omega)]
theorem Zw {W:Nat}(h1:1≤W) (a b:Int):E0 (v1 W a) (v1 W b)=v1 W (a+b):=by
 apply List.ext_getElem?
 intro i
 rw[E0,List.getElem?_zipWith]
 unfold v1 upd
 rw[show (0:Int).toNat=0 from rfl]
 by_cases hi:0=i
 ·subst hi
  rw[List.getElem?_set_self (by simp;omega),List.getElem?_set_self (by simp;omega),List.getElem?_set_self (by simp;omega)]
 ·rw[List.getElem?_set_ne hi,List.getElem?_set_ne hi,List.getElem?_set_ne hi,List.getElem?_replicate]
  by_cases hw:i<W<;>simp [hw]
def TN (H:Int) (W:Nat):Nat→List Int→List Ae
 |_,[]=>[]
 |i,n::l=>(if 0<n then [⟨H, -1,(i:Int), -4,v1 W n⟩] else [])++TN H W (i+1) l
theorem Pc (H:Int) (W:Nat) (n:Int):∀(l:List Int) (i:Nat),TN H W i (l++[n])=TN H W i l++(if 0<n then [⟨H, -1,((i+l.length:Nat):Int), -4,v1 W n⟩] else [])
 |[],i=>by simp [TN]
 |a::l,i=>by
  have e:i+(a::l).length=i+1+l.length:=by simp;omega
  rw[List.cons_append,TN,Pc H W n l (i+1),TN,e,List.append_assoc]
theorem RH (H:Int) (W:Nat):∀(l:List Int) (i:Nat),(TN H W i l).length≤l.length
 |[],_=>by simp [TN]
 |a::l,i=>by
  have:=RH H W l (i+1)
  rw[TN,List.length_append]
  split<;>simp<;>omega
structure kD (w:Aj) (W k:Nat) (l:List Int) (s:Int×Int×List Ae×List (List Int)×List Int):Prop where
 ll:l.length=k
 l0:∀n∈l,0≤n
 ms:s.2.2.1=TN w.s.Hour W 0 l
 own:HM w.b.Places.length W s.2.2.2.1
 lo:∀(i:Nat) x n,w.s.Own[i]? =some x→l[i]? =some n→s.2.2.2.1[i]? =some (E0 x (v1 W n))
 hi:∀i,k≤i→s.2.2.2.1[i]? =w.s.Own[i]?
 th:s.1=Dy s.2.2.2.1+Ex w.s.Queue∧s.1≤1125899906842624
 inn:s.2.2.2.2=E0 w.s.In (v1 W l.sum)
 en:s.2.1=w.s.In.sum+l.sum∧s.2.1≤1152921504606846976
 os:Dy s.2.2.2.1=Dy w.s.Own+l.sum
end Go.Proofs.YtblcgjadhemlbaaGreat
namespace Go.Proofs.YtblcgjadhemlbaaGreat
open Go.RowKit
set_option linter.unusedVariables false
set_option linter.unusedSimpArgs false
def KP (W:Nat) (t:Int) (q:List Ao) (p:Nat):List Int:=(q.filter λl=>decide (l.At≤t)&&decide (l.To=(p:Int))).foldl (λa l=>E0 a l.Part) (List.replicate W 0)
def JY (t:Int) (q:List Ao):List Ao:=q.filter λl=>decide (t<l.At)
theorem LV {W:Nat}{t:Int}{q:List Ao}{p k:Nat}(h:k<q.length):KP W t (q.take (k+1)) p=if (q[k]).At≤t∧(q[k]).To=(p:Int) then E0 (KP W t (q.take k) p) (q[k]).Part else KP W t (q.take k) p:=by
 unfold KP
 rw[List.take_succ_eq_append_getElem h,List.filter_append,List.foldl_append]
 by_cases h1:(q[k]).At≤t∧(q[k]).To=(p:Int)
 ·rw[if_pos h1];simp [h1.1,h1.2]
 ·rw[if_neg h1]
  have:(decide ((q[k]).At≤t)&&decide ((q[k]).To=(p:Int)))=false:=by
   rw[Bool.and_eq_false_iff]
   simp only[decide_eq_false_iff_not]
   by_cases h2:(q[k]).At≤t
   ·exact .inr λh3=>h1 ⟨h2,h3⟩
   ·exact .inl h2
  simp [this]
theorem NI {t:Int}{q:List Ao}{k:Nat}(h:k<q.length):JY t (q.take (k+1))=if (q[k]).At≤t then JY t (q.take k) else JY t (q.take k)++[q[k]]:=by
 unfold JY
 rw[List.take_succ_eq_append_getElem h,List.filter_append]
 by_cases h1:(q[k]).At≤t
 ·rw[if_pos h1];simp;omega
 ·rw[if_neg h1]
  have:t<(q[k]).At:=by omega
  simp [this]
theorem Se (a b:List Ao):Ex (a++b)=Ex a+Ex b:=by unfold Ex;rw[List.map_append,List.sum_append]
structure lA (P W:Nat) (t:Int) (q:List Ao) (k:Nat) (s:List Ao×List (List Int)):Prop where
 rest:s.1=JY t (q.take k)
 own:HM P W s.2
 at_:∀p,p<P→s.2[p]? =some (KP W t (q.take k) p)
 tot:Dy s.2+Ex s.1=Ex (q.take k)
theorem Si (W:Nat):∀P:Nat,Dy (List.replicate P (List.replicate W 0))=0
 |0=>rfl
 |P+1=>by
  have:=Si W P
  unfold Dy at this ⊢
  rw[List.replicate_succ,List.map_cons,List.sum_cons,this,UJ];rfl
theorem aS {N:Nat}(hN:1000000<N) {P W:Nat}(hP:P≤64) (hW:W≤16) {q:List Ao}(hq:q.length≤1000) (hqx:QX P W q) (hqs:Ex q≤1125899906842624) (t:Int):
  ∃s,Jy N q t (P:Int) (W:Int)=some (s.2,s.1)∧lA P W t q q.length s:=by
 unfold Jy
 rw[Nx,Option.bind_some,Nx,Option.bind_some,if_neg (show ¬(P:Int)<0 by omega),if_neg (show ¬64<(P:Int) by omega),if_neg (show ¬(W:Int)<0 by omega),if_neg (show ¬16<(W:Int) by omega),I5 (by omega) _ (by decide)]
 obtain⟨o,⟨i1,i2⟩,e⟩:=Da P (λn i l=>FV N (P:Int) (W:Int) (FW N q t (P:Int)) n i l) (FW N q t (P:Int)) (λk (l:List (List Int))=>l.length=P∧∀i,i<k→l[i]? =some (List.replicate W 0)) (λn k l hk=>by
  simp only[FV];rw[Nc,Ey hk];rfl) (λn k l hi hk=>by
  simp only[FV]
  have hkl:k<l.length:=by rw[hi.1];exact hk
  rw[Nc,Ea hk,cond_true,I5 (by omega) _ (by decide),BA hkl,Option.bind_some,Option.bind_some,BE (by omega)]
  refine⟨_,⟨by rw[Kt];exact hi.1,λi hik=>?_⟩,rfl⟩
  by_cases hne:k=i
  ·subst hne;rw[FQ hkl];rfl
  ·rw[Gy hne];exact hi.2 i (by omega)) N 0 (List.replicate ((P:Int)).toNat ([]:List Int)) ⟨Nc _ _,λi hi=>by omega⟩ (by omega) (Nat.zero_le _)
 rw[show FV N (P:Int) (W:Int) (FW N q t (P:Int)) N 0 _=FW N q t (P:Int) o from e]
 have ho:o=List.replicate P (List.replicate W 0):=List.ext_getElem? λi=>by
  rcases Nat.lt_or_ge i P with h|h
  ·rw[i2 i h,List.getElem?_replicate,if_pos h]
  ·rw[List.getElem?_eq_none (by omega),List.getElem?_eq_none (by simp;omega)]
 have hox:HM P W o:=⟨i1,λx hx=>by rw[ho] at hx;rw[(List.mem_replicate.1 hx).2];exact PX.zero W⟩
 unfold FW
 obtain⟨s,i3,e2⟩:=Da q.length (λn i (s:List Ao×List (List Int))=>Ei N q t (P:Int) (Gm N) n s.1 i s.2) (λs=>Gm N s.1 s.2) (λk s=>lA P W t q k s) (λn k s hk=>by
  simp only[Ei];rw[Ey hk];rfl) (λn k s hi hk=>by
  obtain⟨rs,o⟩:=s
  obtain⟨j1,j2,j3,j4⟩:=hi
  simp only at j1 j2 j3 j4
  obtain⟨x1,x2,x3⟩:=hqx _ (List.getElem_mem hk)
  have h2:=Eq hqx (k+1)
  rw[Jd hk] at h2
  have hrl:rs.length≤k:=by rw[j1];exact Nat.le_trans (List.length_filter_le _ _) (by rw[List.length_take];omega)
  have hr0:0≤Ex rs:=by
   rw[j1]
   exact O9 λl hl=>(hqx l (List.mem_of_mem_take ((List.mem_filter.1 hl).1))).1.sum0
  simp only[Ei,IQ]
  rw[Ea hk,cond_true,BA hk,Option.bind_some,BE (by omega),decide_eq_true x2,decide_eq_true x3,Bool.and_true,Bool.and_true]
  by_cases ht:(q[k]).At≤t
  ·obtain⟨j,hj,hjl⟩:=ZR (l:=o) x2 (by rw[j2.len];exact x3)
   obtain⟨y,hy,hyk,hyp⟩:=j2.ix (k:=j) (by rw[←j2.len];exact hjl)
   have hys:=j2.le hyk
   have hadd:=hyp.add x1 (by omega)
   rw[decide_eq_true ht,cond_true,hj,hy,Option.bind_some,Option.bind_some,hyp.padd hN (by omega) x1,Option.bind_some,Option.bind_some,Option.bind_some]
   refine⟨(_,_),⟨by rw[NI hk,if_pos ht];exact j1,j2.upd _ hadd,λp hp=>?_,?_⟩,rfl⟩
   ·show(upd o (j:Int) _)[p]? =_
    rw[LV hk]
    by_cases hpj:j=p
    ·subst hpj
     rw[FQ hjl,if_pos ⟨ht,hj⟩]
     rw[j3 j hp] at hyk
     rw[Option.some.inj hyk]
    ·rw[Gy hpj,if_neg (by rw[hj];omega)];exact j3 p hp
   ·show Dy (upd o (j:Int) _)+Ex rs=_
    rw[Ng hyk,H1 (hyp.len.trans x1.len.symm),Jd hk]
    omega
  ·rw[decide_eq_false ht,cond_false,KU N (by rw[x1.len];omega),Option.bind_some,Jc (by simp;omega)]
   refine⟨(_,_),⟨by rw[NI hk,if_neg ht,←j1],j2,λp hp=>?_,?_⟩,rfl⟩
   ·rw[LV hk,if_neg λh=>ht h.1];exact j3 p hp
   ·show Dy o+Ex (rs++[_])=_
    rw[Se,Jd hk]
    simp only[Ex,List.map_cons,List.map_nil,List.sum_cons,List.sum_nil] at j4 ⊢
    omega) N 0 ([],o) ⟨rfl,hox,λp hp=>by
   show o[p]? =_
   rw[i2 p hp];rfl,by
   show Dy o+Ex []=Ex (q.take 0)
   rw[ho,Si];rfl⟩ (by omega) (Nat.zero_le _)
 exact⟨s,e2,i3⟩
structure ArX (w:Aj) (W:Nat) (r:List (List Int)×List Ao×List Au×List Int):Prop where
 own:HM w.b.Places.length W r.1
 at_:∀(p:Nat) x,w.s.Own[p]? =some x→r.1[p]? =some (E0 x (KP W w.s.Hour w.s.Queue p))
 rest:r.2.1=JY w.s.Hour w.s.Queue
 pk:r.2.2.2=r.1.map List.sum
 tot:Dy r.1+Ex r.2.1=Dy w.s.Own+Ex w.s.Queue
theorem bG {N:Nat}(hN:1000000<N) {w:Aj}{W:Nat}(hW:w.b.Owners.length=W) (h16:W≤16) (hP:w.b.Places.length≤64) (hL:w.b.Links.length≤96) (hlk:∀l∈w.b.Links,JP w.b l) (ho:HM w.b.Places.length W w.s.Own) (hq:w.s.Queue.length≤1000) (hqx:QX w.b.Places.length W w.s.Queue) (ht:Dy w.s.Own+Ex w.s.Queue≤1125899906842624) (hpk:w.peaks.length=w.b.Places.length) (hg:w.s.Gates.length=w.b.Links.length):
  ∃r,E8 N w=some r∧ArX w W r∧r.2.2.1.length=w.b.Links.length:=by
 have ho0:=ho.sum0
 have hq0:=(Eq hqx 0).2
 rw[List.take_zero,show Ex ([]:List Ao)=0 from rfl] at hq0
 unfold E8
 rw[hW]
 obtain⟨⟨rs,ar⟩,hy,⟨y1,y2,y3,y4⟩⟩:=aS hN hP h16 hq hqx (by omega) w.s.Hour
 simp only at y1 y2 y3 y4 hy
 rw[List.take_length] at y1 y3 y4
 rw[hy,Option.bind_some]
 have hrs0:0≤Ex rs:=by
  rw[y1]
  exact O9 λl hl=>(hqx l ((List.mem_filter.1 hl).1)).1.sum0
 have har0:=y2.sum0
 obtain⟨⟨o,pk⟩,⟨i1,i2,i3,i4,i5,i6⟩,e⟩:=Da w.b.Places.length (λn i (s:List (List Int)×List Int)=>CQ N w (ar,rs) (CR N w (ar,rs)) n i s.1 s.2) (λs=>CR N w (ar,rs) s.1 s.2) (λk s=>HM w.b.Places.length W s.1∧s.2.length=w.b.Places.length∧(∀(p:Nat) x,p<k→w.s.Own[p]? =some x→s.1[p]? =some (E0 x (KP W w.s.Hour w.s.Queue p)))∧(∀p,k≤p→s.1[p]? =w.s.Own[p]?)∧(∀(p:Nat) x,p<k→s.1[p]? =some x→s.2[p]? =some x.sum)∧Dy s.1=Dy w.s.Own+Dy (ar.take k)) (λn k s hk=>by
  simp only[CQ];rw[Ey hk];rfl) (λn k s hi hk=>by
  obtain⟨o,pk⟩:=s
  obtain⟨i1,i2,i3,i4,i5,i6⟩:=hi
  simp only at i1 i2 i3 i4 i5 i6
  obtain⟨a,ha,hak,hap⟩:=i1.ix hk
  obtain⟨c,hc,hck,hcp⟩:=y2.ix hk
  have hcl:k<ar.length:=by rw[y2.len];exact hk
  have hce:ar[k]=c:=by rw[List.getElem?_eq_getElem hcl] at hck;exact Option.some.inj hck
  have t1:=KO y2 (k+1)
  rw[KT hcl,hce] at t1
  have t2:=i1.le hak
  have hd:=hap.add hcp (by omega)
  have hul:k<(upd o (k:Int) (E0 a c)).length:=by rw[Kt,i1.len];exact hk
  simp only[CQ]
  rw[Ea hk,cond_true,BE (by omega),ha,Option.bind_some,Option.bind_some,hc,Option.bind_some,Option.bind_some,hap.padd hN (by omega) hcp,Option.bind_some,Option.bind_some,Option.bind_some]
  have hix:ix (upd o (k:Int) (E0 a c)) (k:Int)=some (E0 a c):=by
   rw[BA hul]
   have:=FQ (l:=o) (k:=k) (by rw[i1.len];exact hk) (E0 a c)
   rw[List.getElem?_eq_getElem hul] at this
   exact this
  rw[hix,Option.bind_some,Option.bind_some,hd.total hN (by omega),Option.bind_some,BA (show k<pk.length by omega),Option.bind_some,Option.bind_some]
  refine⟨(_,_),⟨i1.upd _ hd,by show(upd pk _ _).length=_;rw[Kt];exact i2,λp x hp hx=>?_,λp hp=>?_,λp x hp hx=>?_,?_⟩,rfl⟩
  ·show(upd o (k:Int) _)[p]? =_
   by_cases hpk:k=p
   ·subst hpk
    rw[FQ (by rw[i1.len];exact hk)]
    rw[i4 k (Nat.le_refl _),hx] at hak
    cases hak
    rw[y3 k hk] at hck
    rw[Option.some.inj hck]
   ·rw[Gy hpk];exact i3 p x (by omega) hx
  ·show(upd o (k:Int) _)[p]? =_
   rw[Gy (by omega)];exact i4 p (by omega)
  ·change (upd o (k:Int) (E0 a c))[p]? =some x at hx
   show(upd pk (k:Int) _)[p]? =_
   by_cases hpk:k=p
   ·subst hpk
    rw[FQ (by rw[i1.len];exact hk)] at hx
    rw[FQ (by omega),Option.some.inj hx]
   ·rw[Gy hpk] at hx ⊢;exact i5 p x (by omega) hx
  ·show Dy (upd o (k:Int) _)=_
   rw[Ng hak,H1 (hap.len.trans hcp.len.symm),KT hcl,hce,i6]
   omega) N 0 (w.s.Own,w.peaks) ⟨ho,hpk,λp x hp=>by omega,λp _=>rfl,λp x hp=>by omega,by simp [Dy]⟩ (by omega) (Nat.zero_le _)
 rw[show CQ N w (ar,rs) (CR N w (ar,rs)) N 0 w.s.Own w.peaks=CR N w (ar,rs) o pk from e]
 simp only at i1 i2 i3 i4 i5 i6
 have hat:ar.take w.b.Places.length=ar:=by rw[←y2.len,List.take_length]
 rw[hat] at i6
 unfold CR
 obtain⟨gs,j1,e2⟩:=Da w.b.Links.length (λn i s=>CH N w (ar,rs) o pk n i s) (λs=>some (o,rs,s,pk)) (λi s=>s.length=w.b.Links.length) (λn k s hk=>by
  simp only[CH];rw[Ey hk];rfl) (λn i s hi hk=>by
  simp only[CH,E7]
  have ok:=hlk _ (List.getElem_mem hk)
  rw[Ea hk,cond_true,BA hk,Option.bind_some,BE (by omega)]
  cases decide ((w.b.Links[i]).Kind=3)
  ·exact⟨s,hi,rfl⟩
  ·rw[cond_true,BA (show i<s.length by omega),Option.bind_some,Option.bind_some,aC ok.fr.1 (by rw[i2];exact ok.fr.2),Option.bind_some,Option.bind_some,(eP N _ _ _).1,Option.bind_some,Option.bind_some,Option.bind_some]
   exact⟨_,by rw[Kt];exact hi,rfl⟩) N 0 w.s.Gates hg (by omega) (Nat.zero_le _)
 refine⟨_,e2,⟨i1,λp x hx=>i3 p x ?_ hx,y1,?_,?_⟩,j1⟩
 ·rw[←ho.len];exact(List.getElem?_eq_some_iff.1 hx).1
 ·show pk=o.map List.sum
  apply List.ext_getElem?
  intro p
  rcases Nat.lt_or_ge p w.b.Places.length with h|h
  ·obtain⟨x,_,hx,_⟩:=i1.ix h
   rw[i5 p x h hx,List.getElem?_map,hx];rfl
  ·rw[List.getElem?_eq_none (by omega),List.getElem?_eq_none (by rw[List.length_map,i1.len];omega)]
 ·show Dy o+Ex rs=_
  omega
end Go.Proofs.YtblcgjadhemlbaaGreat
namespace Go.Proofs.YtblcgjadhemlbaaGreat
open Go.RowKit
set_option linter.unusedVariables false
set_option linter.unusedSimpArgs false
def Pu (b:AW) (p:Nat) (way:Int):Int:=if 0≤way∧way<b.Links.length then (UV b way.toNat).Delay else if way= -3 then 0 else (b.Places.getD p default).Delay
structure cJ (b:AW) (W p:Nat) (e:AK):Prop where
 tk:∀x,PX W x→∃t,e.take x=some (t,Ho x t)∧TO t x
 way:e.way≠ -4
 to:e.to_= -1∨(0≤e.to_∧e.to_<b.Places.length)
 dl:e.delay=Pu b p e.way
structure jB (b:AW) (H:Int) (W p:Nat) (m:Ae):Prop where
 hour:m.Hour=H
 fr:m.From=(p:Int)
 way:m.Way≠ -4
 to:m.To= -1∨(0≤m.To∧m.To<b.Places.length)
 px:PX W m.Part
 pos:0<m.Part.sum
def Kc (b:AW) (H:Int) (m:Ae):Option Ao:=if m.To<0 then none else some ⟨BC (BC (H+1)+Pu b m.From.toNat m.Way),m.To,m.Part⟩
def QK (N:Nat) (out:List Int) (ms:List Ae):List Int:=ms.foldl (λo m=>if m.To<0 then (Fl N o m.Part).getD [] else o) out
def Ox (o:List (List Int)) (ms:List Ae):List (List Int):=ms.foldl (λo m=>upd o m.From (Ho (o.getD m.From.toNat []) m.Part)) o
def OJ:List Ae→List (List Int)→Prop
 |[],_=>True
 |m::ms,o=>(∃x,o[m.From.toNat]? =some x∧TO m.Part x)∧OJ ms (upd o m.From (Ho (o.getD m.From.toNat []) m.Part))
def HY (ms:List Ae):Int:=(ms.map λm=>m.Part.sum).sum
theorem OJ.app:∀{l1 l2:List Ae}{o:List (List Int)},OJ l1 o→OJ l2 (Ox o l1)→OJ (l1++l2) o
 |[],_,_,_,h=>h
 |m::l1,l2,o,h1,h2=>⟨h1.1,OJ.app (l1:=l1) h1.2 h2⟩
structure R5 (b:AW) (H:Int) (N W p:Nat) (o:List (List Int)) (out:List Int) (ms:List Ae) (sn:List Ao) (o':List (List Int)) (out':List Int) (ms':List Ae) (sn':List Ao) (l:List Ae):Prop where
 mv:∀m∈l,jB b H W p m
 ms_:ms'=ms++l
 own:o'=Ox o l
 out_:out'=QK N out l
 sn_:sn'=sn++l.filterMap (Kc b H)
 val:OJ l o
 ox:HM b.Places.length W o'
 ol:out'.length=W
 tot:Dy o'+HY l=Dy o
theorem R5.nil {b:AW}{H:Int}{N W p:Nat}{o:List (List Int)}{out:List Int}{ms:List Ae}{sn:List Ao}(ho:HM b.Places.length W o) (hl:out.length=W):R5 b H N W p o out ms sn o out ms sn []:=
 ⟨λm hm=>(by cases hm),by simp,rfl,rfl,by simp,trivial,ho,hl,by simp [HY]⟩
theorem Kg (a b:List Ae):HY (a++b)=HY a+HY b:=by unfold HY;rw[List.map_append,List.sum_append]
theorem R5.trans {b:AW}{H:Int}{N W p:Nat}{o o' o'':List (List Int)}{out out' out'':List Int}{ms ms' ms'':List Ae}{sn sn' sn'':List Ao}{l l':List Ae}(h:R5 b H N W p o out ms sn o' out' ms' sn' l) (k:R5 b H N W p o' out' ms' sn' o'' out'' ms'' sn'' l'):R5 b H N W p o out ms sn o'' out'' ms'' sn'' (l++l'):=
 ⟨λm hm=>(List.mem_append.1 hm).elim (h.mv m) (k.mv m),by rw[k.ms_,h.ms_,List.append_assoc],by rw[k.own,h.own];unfold Ox;rw[List.foldl_append],by rw[k.out_,h.out_];unfold QK;rw[List.foldl_append],by rw[k.sn_,h.sn_,List.filterMap_append,List.append_assoc],h.val.app (by rw[←h.own];exact k.val),k.ox,k.ol,by rw[Kg];have:=h.tot;have:=k.tot;omega⟩
theorem YE {N:Nat}(hN:1000000<N) (t:Int) {to:Int}(h0:0≤to) {p:List Int}(hp:p.length≤1000) (hnn:∀x∈p,0≤x) (hs:0<p.sum):JI N t to p=some [⟨t,to,p⟩]:=by
 obtain⟨i,hi,hip⟩:∃(i:Nat) (h:i<p.length),0<p[i]:=by
  apply Classical.byContradiction
  intro hn
  have:p.sum≤p.length*0:=Jb λx hx=>by
   obtain⟨i,hi,rfl⟩:=List.mem_iff_getElem.1 hx
   have:=hn
   apply Classical.byContradiction
   intro h
   exact hn ⟨i,hi,by omega⟩
  omega
 have hc:∃j:Int,0≤j∧D5 N p (λx=>Gl N x)=some j:=by
  unfold D5
  have:∀(n k:Nat),p.length<n+k→k≤i→∃j:Int,0≤j∧CO N p (λx=>Gl N x) (DV N) n (k:Int)=some j:=by
   intro n
   induction n with
   |zero=>intro k h1 h2;omega
   |succ n ih=>
    intro k h1 h2
    have hk:k<p.length:=by omega
    simp only[CO,Gl]
    rw[Ea hk,cond_true,BA hk,BE (by omega),Option.bind_some,Option.bind_some]
    by_cases h:0<p[k]
    ·rw[decide_eq_true h];exact⟨(k:Int),by omega,rfl⟩
    ·rw[decide_eq_false h,cond_false]
     have:k≠i:=λe=>by subst e;exact h hip
     exact ih (k+1) (by omega) (by omega)
  exact this N 0 (by omega) (Nat.zero_le _)
 obtain⟨j,hj0,hj⟩:=hc
 unfold JI EW
 rw[hj,decide_eq_false (show ¬to<0 by omega),cond_false,Option.bind_some,Option.bind_some,decide_eq_true hj0,Bool.not_true,Option.bind_some,cond_false,KU N (by omega),Option.bind_some,Jc (by simp)]
 rfl
theorem SV {α}{l:List α}{k:Nat}{x:α}(h:l[k]? =some x):upd l (k:Int) x=l:=by
 apply List.ext_getElem?
 intro i
 by_cases e:k=i
 ·subst e;rw[FQ (List.getElem?_eq_some_iff.1 h).1,h]
 ·rw[Gy e]
theorem RS {N:Nat}(hN:1000000<N) {w:Aj}{b:AW}{H:Int}{W:Nat}(hH:w.s.Hour=H) (hW:W≤1000) (ho:HM b.Places.length W w.s.Own) {p:Nat}(hp:p<b.Places.length) {e:AK}(he:cJ b W p e) (hout:w.s.Out.length=W) (hm:w.moves.length≤1000000) (hs:w.sent.length≤1000000):
  ∃r l x t,Fk N w (p:Int) e=some r∧w.s.Own[p]? =some x∧e.take x=some (t,Ho x t)∧TO t x∧r.1=upd w.s.Own (p:Int) (Ho x t)∧R5 b H N W p w.s.Own w.s.Out w.moves w.sent r.1 r.2.1 r.2.2.1 r.2.2.2 l∧l=if t.sum≤0 then [] else [⟨H,(p:Int),e.to_,e.way,t⟩]:=by
 obtain⟨x,hx,hxk,hxp⟩:=ho.ix hp
 obtain⟨t,ht,hv⟩:=he.tk x hxp
 obtain⟨s1,s2,s3⟩:=hv.sub hxp
 have hgd:w.s.Own.getD p []=x:=by simp [List.getD_eq_getElem?_getD,hxk]
 have hou:Dy (upd w.s.Own (p:Int) (Ho x t))=Dy w.s.Own-t.sum:=by rw[Ng hxk,s2];omega
 unfold Fk
 rw[hx,Option.bind_some,Option.bind_some,ht,Option.bind_some,Option.bind_some,Option.bind_some,s3.total hN hW,Option.bind_some]
 by_cases h0:t.sum≤0
 ·rw[decide_eq_true h0,cond_true]
  have hz:Ho x t=x:=U7 hxp.len s3.len (SB s3.nn h0)
  refine⟨_,[],x,t,rfl,hxk,ht,hv,rfl,?_,by rw[if_pos h0]⟩
  show R5 b H N W p w.s.Own w.s.Out w.moves w.sent (upd w.s.Own (p:Int) (Ho x t)) w.s.Out w.moves w.sent []
  rw[hz,SV hxk]
  exact R5.nil ho hout
 ·have hm1:jB b H W p ⟨H,(p:Int),e.to_,e.way,t⟩:=⟨rfl,rfl,he.way,he.to,s3,by show 0<t.sum;omega⟩
  have hval:OJ [(⟨H,(p:Int),e.to_,e.way,t⟩:Ae)] w.s.Own:=⟨⟨x,by show w.s.Own[((p:Int)).toNat]? =_;rw[Int.toNat_natCast];exact hxk,hv⟩,trivial⟩
  have hown:upd w.s.Own (p:Int) (Ho x t)=Ox w.s.Own [(⟨H,(p:Int),e.to_,e.way,t⟩:Ae)]:=by
   show _=upd w.s.Own (p:Int) (Ho (w.s.Own.getD ((p:Int)).toNat []) t)
   rw[Int.toNat_natCast,hgd]
  rw[decide_eq_false h0,cond_false,Jc (by simp;omega),hH]
  by_cases hto:e.to_= -1
  ·obtain⟨a,ha,hal⟩:=WV hN (p:=w.s.Out) (q:=t) (by omega) (by rw[s3.len];omega)
   rw[decide_eq_true hto,cond_true,ha,Option.bind_some]
   refine⟨_,[⟨H,(p:Int),e.to_,e.way,t⟩],x,t,rfl,hxk,ht,hv,rfl,⟨λm hm=>by rw[List.mem_singleton.1 hm];exact hm1,rfl,hown,?_,?_,hval,ho.upd _ s1,?_,?_⟩,by rw[if_neg h0]⟩
   ·show a=if e.to_<0 then (Fl N w.s.Out t).getD [] else _
    rw[if_pos (by omega),ha];rfl
   ·show w.sent=w.sent++_
    rw[show ([(⟨H,(p:Int),e.to_,e.way,t⟩:Ae)].filterMap (Kc b H))=[] by simp [Kc,hto],List.append_nil]
   ·show a.length=W
    rw[hal,hout,s3.len,Nat.max_self]
   ·show Dy (upd _ _ _)+HY _=_
    rw[hou];simp [HY]
  ·have hto2:=he.to.resolve_left hto
   rw[decide_eq_false hto,cond_false,YE hN _ hto2.1 (by rw[s3.len];omega) s3.nn (by omega),Option.bind_some,Jc (by simp;omega)]
   refine⟨_,[⟨H,(p:Int),e.to_,e.way,t⟩],x,t,rfl,hxk,ht,hv,rfl,⟨λm hm=>by rw[List.mem_singleton.1 hm];exact hm1,rfl,hown,?_,?_,hval,ho.upd _ s1,hout,?_⟩,by rw[if_neg h0]⟩
   ·show w.s.Out=if e.to_<0 then _ else w.s.Out
    rw[if_neg (by omega)]
   ·show w.sent++_=w.sent++_
    congr 1
    have hlt:¬e.to_<0:=by omega
    simp only[List.filterMap_cons,List.filterMap_nil,Kc,if_neg hlt,Int.toNat_natCast]
    rw[he.dl]
   ·show Dy (upd _ _ _)+HY _=_
    rw[hou];simp [HY]
theorem NX {N W:Nat}(hN:18446744073709551616<N) (hW:W≤64) (n:Int):∀x,PX W x→∃t,Ab N n x=some (t,Ho x t)∧TO t x∧t.sum=max 0 (min n x.sum):=λx hx=>by
 obtain⟨t,e,h1,h2⟩:=X1 hN hW hx n
 unfold Ab
 rw[e,Option.bind_some]
 exact⟨t,rfl,h1,h2⟩
theorem YQ {N W:Nat}(hN:1000000<N) (hW:W≤64) (t:Fj):∀x,PX W x→∃y,Cu N t x=some (y,Ho x y)∧TO y x:=λx hx=>by
 obtain⟨y,e,h1,_⟩:=YR hN (by omega) hx t.Owner t.Litres
 unfold Cu
 rw[e,Option.bind_some]
 exact⟨y,rfl,h1⟩
def XL (b:AW) (W p:Nat) (l:List AK):Prop:=∀e∈l,cJ b W p e
theorem XL.snoc {b:AW}{W p:Nat}{l:List AK}(h:XL b W p l) {e:AK}(he:cJ b W p e):XL b W p (l++[e]):=λx hx=>by
 rcases List.mem_append.1 hx with hx|hx
 ·exact h x hx
 ·rw[List.mem_singleton.1 hx];exact he
end Go.Proofs.YtblcgjadhemlbaaGreat
namespace Go.Proofs.YtblcgjadhemlbaaGreat
open Go.RowKit
set_option linter.unusedVariables false
set_option linter.unusedSimpArgs false
structure Xh (W:Nat) (out:List Int) (ms:List Ae) (sn:List Ao) (M:Nat):Prop where
 out:out.length=W
 mv:ms.length≤M
 sn:sn.length≤M
theorem Xh.next {b:AW}{H:Int}{N W p M:Nat}{o o':List (List Int)}{out out':List Int}{ms ms':List Ae}{sn sn':List Ao}{l:List Ae}(h:Xh W out ms sn M) (k:R5 b H N W p o out ms sn o' out' ms' sn' l) {c:Nat}(hl:l.length≤c):Xh W out' ms' sn' (M+c):=
 ⟨k.ol,by rw[k.ms_,List.length_append];have:=h.mv;omega,by
  rw[k.sn_,List.length_append]
  have:=List.length_filterMap_le (Kc b H) l
  have:=h.sn
  omega⟩
theorem Xh.le {W M M':Nat}{out:List Int}{ms:List Ae}{sn:List Ao}(h:Xh W out ms sn M) (hM:M≤M'):Xh W out ms sn M':=⟨h.out,Nat.le_trans h.mv hM,Nat.le_trans h.sn hM⟩
theorem RU {α}{c:Prop}[Decidable c] {x:α}:(if c then [] else [x]).length≤1:=by split<;>simp
structure iX (b:AW) (s:Ak):Prop where
 own:HM b.Places.length b.Owners.length s.Own
 que:QX b.Places.length b.Owners.length s.Queue
 tot:Dy s.Own+Ex s.Queue≤1125899906842624
 rem:s.Rem.length=b.Places.length
 gates:s.Gates.length=b.Links.length
 inn:s.In.length=b.Owners.length
 inn0:∀x∈s.In,0≤x
 inns:s.In.sum≤1152921504606846976
 out:s.Out.length=b.Owners.length
structure iJ (b:AW) (H:Int) (N W k:Nat) (o:List (List Int)) (out:List Int) (ms:List Ae) (o':List (List Int)) (out':List Int) (ms':List Ae) (sn':List Ao) (l:List Ae):Prop where
 mv:∀m∈l,∃p,p<k∧jB b H W p m
 ord:l.Pairwise λa c=>a.From≤c.From
 ms_:ms'=ms++l
 own:o'=Ox o l
 out_:out'=QK N out l
 sn_:sn'=l.filterMap (Kc b H)
 val:OJ l o
 ox:HM b.Places.length W o'
 ol:out'.length=W
 tot:Dy o'+HY l=Dy o
theorem iJ.next {b:AW}{H:Int}{N W k:Nat}{o o' o'':List (List Int)}{out out' out'':List Int}{ms ms' ms'':List Ae}{sn' sn'':List Ao}{l l':List Ae}(h:iJ b H N W k o out ms o' out' ms' sn' l) (q:R5 b H N W k o' out' ms' sn' o'' out'' ms'' sn'' l'):iJ b H N W (k+1) o out ms o'' out'' ms'' sn'' (l++l'):=
 ⟨λm hm=>(List.mem_append.1 hm).elim (λhm=>by obtain⟨p,h1,h2⟩:=h.mv m hm;exact⟨p,by omega,h2⟩) (λhm=>⟨k,by omega,q.mv m hm⟩),
  List.pairwise_append.2 ⟨h.ord,List.pairwise_iff_getElem.2 λi j hi hj _=>by
  rw[(q.mv _ (List.getElem_mem hi)).fr,(q.mv _ (List.getElem_mem hj)).fr];exact Int.le_refl _,λa ha c hc=>by
  obtain⟨p,h1,h2⟩:=h.mv a ha
  rw[h2.fr,(q.mv c hc).fr];omega⟩,
  by rw[q.ms_,h.ms_,List.append_assoc],by rw[q.own,h.own];unfold Ox;rw[List.foldl_append],by rw[q.out_,h.out_];unfold QK;rw[List.foldl_append],by rw[q.sn_,h.sn_,List.filterMap_append],h.val.app (by rw[←h.own];exact q.val),q.ox,q.ol,by rw[Kg];have:=h.tot;have:=q.tot;omega⟩
end Go.Proofs.YtblcgjadhemlbaaGreat
