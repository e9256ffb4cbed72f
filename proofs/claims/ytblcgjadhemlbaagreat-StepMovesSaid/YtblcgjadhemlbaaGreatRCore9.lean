import Derived.Test.YtblcgjadhemlbaaGreatRPureMv
import Derived.Test.YtblcgjadhemlbaaGreatRPureEx
import Derived.Test.YtblcgjadhemlbaaGreatRCore8
import Derived.ProofKit
import Derived.OpenShut
import Derived.JoinedCond
import Derived.Deep.Slices
namespace Go.Proofs.YtblcgjadhemlbaaGreat
open Go.RowKit
set_option linter.unusedVariables false
set_option linter.unusedSimpArgs false
theorem cL {N:Nat}(hN:1000000<N) {W:Nat}(hW:W≤1000) (r:Aj×List Ak×List Int) (hr:r.2.1.length≤1000000) (hp:∀m∈r.2.1,m.Part.length=W) (p:Nat) {x:List Int}(hx:x.length=W) (kj:List Int→Option Bool):Bn N r (p:Int) kj N x 0=kj (TH N p r.2.1 x):=by
 obtain⟨s,⟨i1,i2⟩,e⟩:=DZ r.2.1.length (λn i s=>Bn N r (p:Int) kj n s i) kj (λk s=>s.length=W∧s=TH N p (r.2.1.take k) x) (λn k s hk=>by
  simp only[Bn];rw[Eh hk];rfl) (λn k s hi hk=>by
  obtain⟨i1,i2⟩:=hi
  simp only[Bn,EN]
  rw[Ee hk,cond_true,BI hk,Option.bind_some,Option.bind_some,Option.bind_some,Option.bind_some,Option.bind_some,Option.bind_some,BF (by omega),Fc,Option.bind_some,OQ]
  obtain⟨a,ha,hal⟩:=Pk hN (p:=s) (q:=(r.2.1[k]).Part) (by omega) (by rw[hp _ (List.getElem_mem hk)];omega)
  have hc:(decide ((r.2.1[k]).To=(p:Int))&&decide ((r.2.1[k]).Way= -4))=decide ((r.2.1[k]).To=(p:Int)∧(r.2.1[k]).Way= -4):=by rw[Bool.decide_and]
  rw[hc]
  by_cases h:(r.2.1[k]).To=(p:Int)∧(r.2.1[k]).Way= -4
  ·rw[decide_eq_true h,cond_true,ha,Option.bind_some]
   exact⟨a,⟨by rw[hal,i1,hp _ (List.getElem_mem hk),Nat.max_self],by rw[SY hk,if_pos h,←i2,ha];rfl⟩,rfl⟩
  ·rw[decide_eq_false h,cond_false]
   exact⟨s,⟨i1,by rw[SY hk,if_neg h,←i2]⟩,rfl⟩) N 0 x ⟨hx,rfl⟩ (by omega) (Nat.zero_le _)
 rw[List.take_length] at i2
 subst i2
 exact e
theorem cK {N:Nat}(hN:1000000<N) {P W:Nat}(hW:W≤1000) {s:Aj}(hq:s.Queue.length≤1000) (hqx:QX P W s.Queue) (p:Nat) {x:List Int}(hx:PX W (Fp x (Mi W s.Hour s.Queue p))) (hxl:x.length=W) (hx0:∀y∈x,0≤y) (kj:List Int→Option Bool):Bm N s (p:Int) kj N x 0=kj (Fp x (Mi W s.Hour s.Queue p)):=by
 have hmv:=hx.mv
 have hal:=(M6 hqx (t:=s.Hour) (p:=p) s.Queue.length (Nat.le_refl _))
 rw[List.take_length] at hal
 rw[HH (hxl.trans hal.1.symm)] at hmv
 obtain⟨y,i1,e⟩:=DZ s.Queue.length (λn i y=>Bm N s (p:Int) kj n y i) kj (λk y=>y=Fp x (Mi W s.Hour (s.Queue.take k) p)) (λn k y hk=>by
  simp only[Bm];rw[Eh hk];rfl) (λn k y hi hk=>by
  simp only[Bm,EM]
  rw[Ee hk,cond_true,BI hk,Option.bind_some,Option.bind_some,Option.bind_some,BF (by omega),Fc,Option.bind_some,OQ]
  have hc:(decide ((s.Queue[k]).To=(p:Int))&&decide ((s.Queue[k]).At≤s.Hour))=decide ((s.Queue[k]).At≤s.Hour∧(s.Queue[k]).To=(p:Int)):=by rw[Bool.decide_and,Bool.and_comm]
  rw[hc]
  by_cases h:(s.Queue[k]).At≤s.Hour∧(s.Queue[k]).To=(p:Int)
  ·have h1:=M6 hqx (t:=s.Hour) (p:=p) k (by omega)
   have h2:=Qu hqx (t:=s.Hour) (p:=p) (s.Queue.length-(k+1)) (k+1) (by omega)
   rw[show k+1+(s.Queue.length-(k+1))=s.Queue.length by omega,List.take_length,Jq hk,if_pos h] at h2
   have h3:=(hqx _ (List.getElem_mem hk)).1
   rw[HH (h1.1.trans h3.len.symm)] at h2
   have h30:=h3.sum0
   have hy:PX W y:=by
    rw[hi]
    exact⟨Kg hxl h1.1,Nf hx0 h1.2,by rw[HH (hxl.trans h1.1.symm)];omega⟩
   rw[decide_eq_true h,cond_true,hy.padd hN hW h3,Option.bind_some]
   exact⟨_,by rw[hi,Jq hk,if_pos h,NQ],rfl⟩
  ·rw[decide_eq_false h,cond_false]
   exact⟨y,by rw[hi,Jq hk,if_neg h],rfl⟩) N 0 x (by show x=Fp x (List.replicate W 0);rw[Mr hxl]) (by omega) (Nat.zero_le _)
 rw[List.take_length] at i1
 subst i1
 exact e
theorem cJ {N:Nat}(hN:1000000<N) {b:AX}{H:Int}{W:Nat}(hW:W≤1000) {r:Aj×List Ak×List Int}{R l:List Ak}(hr:r.2.1=R++l) (hlen:r.2.1.length≤1000000) (hR:∀m∈R,m.From= -1) {o:List (List Int)}(ho:I0 b.Places.length W o) (hv:N4 l o) (hm:∀m∈l,∃p,p<b.Places.length∧bN b H W p m) {p:Nat}(hp:p<b.Places.length) {x:List Int}(hx:o[p]? =some x) (kj:List Int→Option Bool):∃y,(L9 o l)[p]? =some y∧Bl N r (p:Int) kj N x 0=kj y:=by
 have hlr:r.2.1.length=R.length+l.length:=by rw[hr,List.length_append]
 obtain⟨y,i1,e⟩:=DZ r.2.1.length (λn i y=>Bl N r (p:Int) kj n y i) kj (λk y=>(L9 o (l.take (k-R.length)))[p]? =some y) (λn k y hk=>by
  simp only[Bl];rw[Eh hk];rfl) (λn k y hi hk=>by
  simp only[Bl,EC]
  rw[Ee hk,cond_true,BI hk,Option.bind_some,Option.bind_some,BF (by omega)]
  by_cases hkR:k<R.length
  ·have hf:(r.2.1[k]).From= -1:=hR _ (by simp only[hr];rw[List.getElem_append_left hkR];exact List.getElem_mem hkR)
   rw[decide_eq_false (by rw[hf];omega),cond_false]
   exact⟨y,by rw[show k+1-R.length=0 by omega];rw[show k-R.length=0 by omega] at hi;exact hi,rfl⟩
  ·have hjl:k-R.length<l.length:=by omega
   have hmk:r.2.1[k]=l[k-R.length]:=by simp only[hr];rw[List.getElem_append_right (by omega)]
   rw[hmk,show k+1-R.length=(k-R.length)+1 by omega]
   generalize k-R.length=j at hi hjl
   obtain⟨z,hz,hle⟩:=hv.at_ j hjl
   obtain⟨q,hq,hmq⟩:=hm _ (List.getElem_mem hjl)
   have hox:=Qh ho hv hm j (by omega)
   have hfr:=hmq.fr
   have hgd:(L9 o (l.take j)).getD (l[j]).From.toNat []=z:=by rw[List.getD_eq_getElem?_getD,hz];rfl
   rw[hfr,Int.toNat_natCast] at hz
   have hot:L9 o (l.take (j+1))=upd (L9 o (l.take j)) (q:Int) (Hv z (l[j]).Part):=by rw[Qi hjl,hgd,hfr]
   rw[hfr,hot]
   by_cases hqp:q=p
   ·subst hqp
    rw[hi] at hz
    cases hz
    have hzp:=hox.all y (List.mem_of_getElem? hi)
    rw[decide_eq_true rfl,cond_true,Option.bind_some,Option.bind_some,WA hN hW hzp (hle.sub hzp).2.2,Option.bind_some]
    exact⟨_,Fo (by rw[hox.len];exact hp) _,rfl⟩
   ·rw[decide_eq_false (show ¬(q:Int)=(p:Int) by omega),cond_false]
    exact⟨y,by rw[Hx hqp];exact hi,rfl⟩) N 0 x (by rw[Nat.zero_sub];exact hx) (by omega) (Nat.zero_le _)
 rw[hlr,Nat.add_sub_cancel_left,List.take_length] at i1
 exact⟨y,i1,e⟩
theorem Zd {N:Nat}(hN:1000000<N) {s:Aj}(hq:s.Queue.length≤1000) (kj:List Al→Option Bool):Bh N s kj N [] 0=kj (NL s.Hour s.Queue):=by
 obtain⟨y,i1,e⟩:=DZ s.Queue.length (λn i y=>Bh N s kj n y i) kj (λk y=>y=NL s.Hour (s.Queue.take k)) (λn k y hk=>by
  simp only[Bh];rw[Eh hk];rfl) (λn k y hi hk=>by
  have hyl:y.length≤1000:=by rw[hi];exact Nat.le_trans (List.length_filter_le _ _) (by rw[List.length_take];omega)
  simp only[Bh,EB]
  rw[Ee hk,cond_true,BI hk,Option.bind_some,BF (by omega)]
  by_cases h:(s.Queue[k]).At≤s.Hour
  ·rw[decide_eq_false (by omega),cond_false]
   exact⟨y,by rw[Lg hk,if_pos h,hi],rfl⟩
  ·rw[decide_eq_true (by omega),cond_true,Option.bind_some,Ia (by omega)]
   exact⟨_,by rw[Lg hk,if_neg h,hi],rfl⟩) N 0 [] rfl (by omega) (Nat.zero_le _)
 rw[List.take_length] at i1
 subst i1
 exact e
theorem Zc {N:Nat}(hN:1000000<N) {b:AX}{W:Nat}(hW:W≤1000) {s:Aj}{r:Aj×List Ak×List Int}{R l:List Ak}(hr:r.2.1=R++l) (hlen:r.2.1.length≤500000) (hR:∀m∈R,m.From= -1∧m.Hour=s.Hour∧m.Way= -4∧PX W m.Part∧0<m.Part.sum) (hm:∀m∈l,∃p,p<b.Places.length∧bN b s.Hour W p m) (hord:l.Pairwise λa c=>a.From≤c.From) {q0:List Al}(hq0:q0.length≤1000) {out:List Int}(hout:out.length=W) (kj:List Al→List Int→Option Bool):Bb N b s r kj N q0 out 0=kj (q0++l.filterMap (JS b s.Hour)) (Pm N out l):=by
 have hlr:r.2.1.length=R.length+l.length:=by rw[hr,List.length_append]
 have hpx:∀m∈r.2.1,m.Hour=s.Hour∧PX W m.Part∧0<m.Part.sum∧ -1≤m.From:=λm hmm=>by
  rw[hr] at hmm
  rcases List.mem_append.1 hmm with h|h
  ·obtain⟨h1,h2,h3,h4,h5⟩:=hR m h
   exact⟨h2,h4,h5,by omega⟩
  ·obtain⟨p,hp,h⟩:=hm m h
   exact⟨h.hour,h.px,h.pos,by rw[h.fr];omega⟩
 have hmono:∀(k:Nat) (h0:0<k) (hk:k<r.2.1.length),¬(r.2.1[k]).From<(r.2.1[k-1]'(by omega)).From:=λk h0 hk=>by
  by_cases hkR:k-1<R.length
  ·have hf:(r.2.1[k-1]'(by omega)).From= -1:=(hR _ (by simp only[hr];rw[List.getElem_append_left hkR];exact List.getElem_mem hkR)).1
   have:=(hpx _ (List.getElem_mem hk)).2.2.2
   omega
  ·have h1:r.2.1[k]=l[k-R.length]'(by omega):=by simp only[hr];rw[List.getElem_append_right (by omega)]
   have h2:r.2.1[k-1]'(by omega)=l[k-1-R.length]'(by omega):=by simp only[hr];rw[List.getElem_append_right (by omega)]
   have:=List.pairwise_iff_getElem.1 hord (k-1-R.length) (k-R.length) (by omega) (by omega) (by omega)
   rw[h1,h2];omega
 obtain⟨⟨q,o⟩,⟨i1,i2,i3⟩,e⟩:=DZ r.2.1.length (λn i (y:List Al×List Int)=>Bb N b s r kj n y.1 y.2 i) (λy=>kj y.1 y.2) (λk y=>y.1=q0++(l.take (k-R.length)).filterMap (JS b s.Hour)∧y.2=Pm N out (l.take (k-R.length))∧y.2.length=W) (λn k y hk=>by
  simp only[Bb];rw[Eh hk];rfl) (λn k y hi hk=>by
  obtain⟨q,o⟩:=y
  obtain⟨i1,i2,i3⟩:=hi
  simp only at i1 i2 i3
  obtain⟨m1,m2,m3,m4⟩:=hpx _ (List.getElem_mem hk)
  have hps:=m2.mv
  have hql:q.length≤1000+500000:=by
   rw[i1,List.length_append]
   have:=List.length_filterMap_le (JS b s.Hour) (l.take (k-R.length))
   rw[List.length_take] at this
   omega
  have hprev:Option.bind (cond (decide (0<(k:Int))) (Option.bind (ix r.2.1 (BD ((k:Int)-1))) λx545=>Option.bind (ix r.2.1 (BD ((k:Int)-1))) λx548=>some (decide ((r.2.1[k]).From<x548.From))) (some false)) (λb542=>some b542)=some false:=by
   rcases Nat.eq_zero_or_pos k with h0|h0
   ·subst h0;rfl
   ·rw[decide_eq_true (show(0:Int)<(k:Int) by omega),cond_true,show BD ((k:Int)-1)=((k-1:Nat):Int) by rw[EF (by omega) (by omega)];omega,BI (show k-1<r.2.1.length by omega),Option.bind_some,Option.bind_some,decide_eq_false (hmono k h0 hk)]
    rfl
  simp only[Bb,DF]
  rw[Ee hk,cond_true,BI hk,Option.bind_some,Option.bind_some,decide_eq_false (show ¬(r.2.1[k]).Hour≠s.Hour by omega),cond_false,UG hN (by rw[m2.len];omega) m2.nn (by omega),Option.bind_some,decide_eq_false (show ¬(r.2.1[k]).Part.sum=0 by omega),Option.bind_some,cond_false,hprev,Option.bind_some,cond_false,BF (by omega)]
  by_cases hkR:k<R.length
  ·have hw:(r.2.1[k]).Way= -4:=(hR _ (by simp only[hr];rw[List.getElem_append_left hkR];exact List.getElem_mem hkR)).2.2.1
   rw[decide_eq_true hw,cond_true]
   refine⟨(q,o),⟨?_,?_,i3⟩,rfl⟩
   ·rw[show k+1-R.length=0 by omega];rw[show k-R.length=0 by omega] at i1;exact i1
   ·rw[show k+1-R.length=0 by omega];rw[show k-R.length=0 by omega] at i2;exact i2
  ·have hjl:k-R.length<l.length:=by omega
   have hmk:r.2.1[k]=l[k-R.length]:=by simp only[hr];rw[List.getElem_append_right (by omega)]
   rw[hmk] at m2 ⊢
   rw[show k+1-R.length=(k-R.length)+1 by omega]
   generalize k-R.length=j at i1 i2 hjl m2
   obtain⟨p,hp,hmq⟩:=hm _ (List.getElem_mem hjl)
   rw[decide_eq_false hmq.way,cond_false]
   have htk:(l.take (j+1)).filterMap (JS b s.Hour)=(l.take j).filterMap (JS b s.Hour)++(JS b s.Hour l[j]).toList:=by
    rw[List.take_succ_eq_append_getElem hjl,List.filterMap_append]
    cases h:JS b s.Hour l[j]<;>simp [h]
   by_cases hto:(l[j]).To<0
   ·obtain⟨a,ha,hal⟩:=Pk hN (p:=o) (q:=(l[j]).Part) (by omega) (by rw[m2.len];omega)
    rw[decide_eq_true hto,cond_true,ha,Option.bind_some]
    refine⟨(q,a),⟨?_,?_,by show a.length=W;rw[hal,i3,m2.len,Nat.max_self]⟩,rfl⟩
    ·rw[htk];simp only[JS,if_pos hto,Option.toList_none,List.append_nil];exact i1
    ·rw[Qj hjl,if_pos hto,←i2,ha];rfl
   ·rw[decide_eq_false hto,cond_false,W2 hmq.fr hp,Option.bind_some,Ia (by simp;omega)]
    refine⟨(_,o),⟨?_,?_,i3⟩,rfl⟩
    ·rw[htk];simp only[JS,if_neg hto,Option.toList_some,i1,List.append_assoc]
    ·rw[Qj hjl,if_neg hto];exact i2) N 0 (q0,out) ⟨by simp,by simp [Pm],hout⟩ (by omega) (Nat.zero_le _)
 simp only at i1 i2
 rw[hlr,Nat.add_sub_cancel_left,List.take_length] at i1 i2
 subst i1;subst i2
 exact e
theorem P0 {N:Nat}(hN:1000000<N) {a:List Int}(h:a.length≤1000):CF N a a=some true:=by
 unfold CF
 rw[decide_eq_false (show ¬(a.length:Int)≠a.length by omega),cond_false]
 exact PE a.length (λn i=>CZ N a a (Dl N) n i) (Dl N) (λn k hk=>by
  simp only[CZ];rw[Eh hk];rfl) (λn k hk=>by
  simp only[CZ]
  rw[Ee hk,cond_true,BI hk,Option.bind_some,Option.bind_some,decide_eq_false (show ¬a[k]≠a[k] by omega),cond_false,BF (by omega)]) N 0 (by omega) (Nat.zero_le _)
theorem Wu {N:Nat}(hN:1000000<N) {q:List Al}(h:q.length≤900000) (hp:∀l∈q,l.Part.length≤1000):A4 N q q (λx=>Fh N x.1 x.2)=some true:=by
 unfold A4
 rw[decide_eq_false (show ¬(q.length:Int)≠q.length by omega),cond_false]
 exact PE q.length (λn i=>Ah N q q (λx=>Fh N x.1 x.2) (Au N) n i) (Au N) (λn k hk=>by
  simp only[Ah];rw[Eh hk];rfl) (λn k hk=>by
  simp only[Ah]
  have hs:Fh N q[k] q[k]=some true:=by
   unfold Fh
   rw[decide_eq_true rfl,decide_eq_true rfl,Bool.and_self,cond_true,P0 hN (hp _ (List.getElem_mem hk))]
   rfl
  rw[Ee hk,cond_true,BI hk,Option.bind_some,Option.bind_some,hs,Option.bind_some,Bool.not_true,cond_false,BF (by omega)]) N 0 (by omega) (Nat.zero_le _)
theorem TT {N:Nat}(hN:1000000<N) {q:List Al}(h:q.length≤900000) (hp:∀l∈q,l.Part.length≤1000):Id N (⟨0,[],[],q,[],[],[]⟩:Aj) (⟨0,[],[],q,[],[],[]⟩:Aj)=some true:=by
 have e1:Cn N [] [] (λx=>CF N x.1 x.2)=some true:=by
  obtain⟨n,rfl⟩:∃n,N=n+1:=⟨N-1,by omega⟩
  unfold Cn
  simp only[CE]
  rfl
 have e2:B5 N [] []=some true:=by
  obtain⟨n,rfl⟩:∃n,N=n+1:=⟨N-1,by omega⟩
  unfold B5
  simp only[Ba]
  rfl
 have e3:=P0 hN (a:=[]) (by simp)
 have e4:=Wu hN h hp
 unfold Id
 simp only[e1,e2,e3,e4,Option.bind_some,decide_true,cond_true]
end Go.Proofs.YtblcgjadhemlbaaGreat
namespace Go.Proofs.YtblcgjadhemlbaaGreat
open Go.RowKit
set_option linter.unusedVariables false
set_option linter.unusedSimpArgs false
theorem Xo (N p:Nat) (a b:List Ak) (h:List Int):TH N p (a++b) h=TH N p b (TH N p a h):=by unfold TH;rw[List.foldl_append]
theorem Tc {N:Nat}(hN:18446744073709551616<N) {b:AX}(hb:qQ b) {s:Aj}(hs:jD b s) (hq:s.Queue.length≤1000) {r:Aj×List Ak×List Int}{ns:List Int}{o3:List (List Int)}{l:List Ak}(h:ZL N b s r ns o3 l):Az N b s r (A0 N b s true r) N [] 0=some true:=by
 have hN':1000000<N:=by omega
 have hP:=hb.pl
 have hW:=hb.own
 have hW1:=hb.own1
 have hml:=h.mlen
 have hlv:=h.lv
 have hR:∀m∈RI s.Hour b.Owners.length 0 ns,m.From= -1∧m.Hour=s.Hour∧m.Way= -4∧PX b.Owners.length m.Part∧0<m.Part.sum:=λm hm=>by
  obtain⟨k,n,h1,h2,h3⟩:=T7 hm
  subst h3
  have hn:n≤1125899906842624:=by
   obtain⟨i,hi⟩:=List.mem_iff_getElem?.1 h1
   have hil:=(List.getElem?_eq_some_iff.1 hi).1
   obtain⟨x,_,hx,hxp⟩:=hs.own.ix (k:=i) (by rw[←h.nl];exact hil)
   have h3:=h.at3 i x n hx hi
   have h4:=(h.ox3.all _ (List.mem_of_getElem? h3)).mv
   have hal:=M6 hs.que (t:=s.Hour) (p:=i) s.Queue.length (Nat.le_refl _)
   rw[List.take_length] at hal
   rw[HH (by rw[Kg hxp.len (ML _ _),hal.1]),HH (by rw[hxp.len,ML]),OF hW1] at h4
   have:=hxp.sum0
   have:=JK hal.2
   omega
  exact⟨rfl,rfl,rfl,Ty hW1 (by omega) hn,by show 0<(v1 _ n).sum;rw[OF hW1];exact h2⟩
 have hn2:∀n∈ns,0≤n∧n≤1125899906842624:=λn hn=>by
  refine⟨h.n0 n hn,?_⟩
  obtain⟨i,hi⟩:=List.mem_iff_getElem?.1 hn
  have hil:=(List.getElem?_eq_some_iff.1 hi).1
  obtain⟨x,_,hx,hxp⟩:=hs.own.ix (k:=i) (by rw[←h.nl];exact hil)
  have h3:=h.at3 i x n hx hi
  have h4:=(h.ox3.all _ (List.mem_of_getElem? h3)).mv
  have hal:=M6 hs.que (t:=s.Hour) (p:=i) s.Queue.length (Nat.le_refl _)
  rw[List.take_length] at hal
  rw[HH (by rw[Kg hxp.len (ML _ _),hal.1]),HH (by rw[hxp.len,ML]),OF hW1] at h4
  have:=hxp.sum0
  have:=JK hal.2
  omega
 have hpl:∀m∈r.2.1,m.Part.length=b.Owners.length:=λm hm=>by
  rw[hlv.ms_] at hm
  rcases List.mem_append.1 hm with hm|hm
  ·exact(hR m hm).2.2.2.1.len
  ·obtain⟨p,_,hp⟩:=hlv.mv m hm;exact hp.px.len
 have hown:r.1.Own.length=b.Places.length:=hlv.ox.len
 obtain⟨tops,i1,e⟩:=DZ b.Places.length (λn i t=>Az N b s r (A0 N b s true r) n t i) (A0 N b s true r) (λk t=>t=(o3.map List.sum).take k) (λn k t hk=>by
  simp only[Az];rw[Eh hk];rfl) (λn k t hi hk=>by
  obtain⟨x,hx,hxk,hxp⟩:=hs.own.ix hk
  have hnk:k<ns.length:=by rw[h.nl];exact hk
  have hnn:=hn2 _ (List.getElem_mem hnk)
  have hat:=h.at3 k x _ hxk (List.getElem?_eq_getElem hnk)
  have hyp:=h.ox3.all _ (List.mem_of_getElem? hat)
  have h3k:k<o3.length:=by rw[h.ox3.len];exact hk
  have htl:t.length≤1000:=by rw[hi,List.length_take];omega
  have hrn:TH N k r.2.1 x=Fp x (v1 b.Owners.length ns[k]):=by
   rw[hlv.ms_,Xo,T6 hN' hW1 (by omega) hxp hn2 (Nat.zero_le k) ns[k] (by rw[Nat.sub_zero];exact List.getElem?_eq_getElem hnk),RG λm hm hc=>by
    obtain⟨p,_,hp⟩:=hlv.mv m hm
    exact hp.way hc.2]
  obtain⟨z,hz,e9⟩:=cJ hN' (b:=b) (H:=s.Hour) (W:=b.Owners.length) (by omega) (r:=r) hlv.ms_ (by omega) (λm hm=>(hR m hm).1) h.ox3 hlv.val (λm hm=>by obtain⟨p,h1,h2⟩:=hlv.mv m hm;exact⟨p,h1,h2⟩) hk hat (Co N b r t (k:Int) (Fp (Fp x (v1 b.Owners.length ns[k])) (Mi b.Owners.length s.Hour s.Queue k)).sum (λl i=>Az N b s r (A0 N b s true r) n l i))
  have hzo:r.1.Own[k]? =some z:=by rw[hlv.own];exact hz
  have hzp:=hlv.ox.all z (List.mem_of_getElem? hzo)
  have hzi:ix r.1.Own (k:Int)=some z:=by
   have:k<r.1.Own.length:=by rw[hown];exact hk
   rw[BI this];rw[List.getElem?_eq_getElem this] at hzo;exact hzo
  have hms:=hyp.mv
  simp only[Az]
  rw[Ee hk,cond_true,hx,Option.bind_some,cL hN' (by omega) r (by omega) hpl k hxp.len,hrn]
  unfold DX
  rw[cK hN' (by omega) hq hs.que k hyp (Kg hxp.len (ML _ _)) (Nf hxp.nn (Ty hW1 hnn.1 hnn.2).nn)]
  unfold DW
  rw[UG hN' (by rw[hyp.len];omega) hyp.nn (by omega),Option.bind_some,Ia (by omega),e9]
  unfold Co
  rw[hown,decide_eq_false (show ¬(b.Places.length:Int)≠b.Places.length by omega),cond_false,hzi,Option.bind_some,ON hN' (by rw[hzp.len];omega),Option.bind_some,Bool.not_true,Option.bind_some,cond_false,BF (by omega)]
  refine⟨_,?_,rfl⟩
  rw[List.take_succ_eq_append_getElem (by rw[List.length_map];exact h3k),←hi,List.getElem_map]
  rw[List.getElem?_eq_getElem h3k] at hat
  rw[Option.some.inj hat]) N 0 [] rfl (by omega) (Nat.zero_le _)
 have e:Az N b s r (A0 N b s true r) N [] 0=A0 N b s true r tops:=e
 have htop:tops=r.2.2:=by rw[i1,h.pk,←h.ox3.len,←List.length_map (f:=List.sum),List.take_length]
 have hq0:(NL s.Hour s.Queue).length≤s.Queue.length:=List.length_filter_le _ _
 have hll:l.length≤r.2.1.length:=by rw[hlv.ms_,List.length_append];omega
 rw[e,htop]
 unfold A0
 rw[Zd hN' hq]
 unfold DH
 rw[Zc hN' (W:=b.Owners.length) (by omega) hlv.ms_ (by omega) hR (λm hm=>by obtain⟨p,h1,h2⟩:=hlv.mv m hm;exact⟨p,h1,h2⟩) hlv.ord (by omega) hs.out,←h.que,←hlv.out_]
 unfold DG
 have hpk:r.2.2.length≤1000:=by rw[h.pk,List.length_map,h.ox3.len];omega
 have hout:r.1.Out.length≤1000:=by rw[hlv.ol];omega
 have hql:r.1.Queue.length≤900000:=by
  rw[h.que,List.length_append]
  have:=List.length_filterMap_le (JS b s.Hour) l
  omega
 have hqp:∀m∈r.1.Queue,m.Part.length≤1000:=λm hm=>by
  rw[h.que] at hm
  rcases List.mem_append.1 hm with hm|hm
  ·have:=(hs.que m (List.mem_filter.1 hm).1).1.len
   omega
  ·obtain⟨a,ha,hs2⟩:=List.mem_filterMap.1 hm
   obtain⟨p,_,hp⟩:=hlv.mv a ha
   unfold JS at hs2
   split at hs2
   ·cases hs2
   ·cases hs2
    have:=hp.px.len
    show a.Part.length≤_
    omega
 rw[ON hN' hpk,ON hN' hout,TT hN' hql hqp]
 rfl
theorem Q9 {N:Nat}(hN:18446744073709551616<N) (hsm:GU N=some true) (b:AX) (s:Aj) (in_:Ek):FQ N b s in_=some true:=by
 unfold FQ H4 IR
 rw[hsm,Option.bind_some]
 cases hB:(((decide (6<(b.Places.length:Int))||decide (6<(b.Links.length:Int)))||decide (4<(b.Owners.length:Int)))||decide (12<(s.Queue.length:Int))) with
 |true=>rfl
 |false=>
  simp only[Bool.or_eq_false_iff,decide_eq_false_iff_not] at hB
  rw[cond_false,Option.bind_some]
  cases hC:((((decide ((in_.Rain.length:Int)≤8)&&decide ((in_.Faults.length:Int)≤8))&&decide ((in_.Cmds.length:Int)≤8))&&decide ((in_.Takes.length:Int)≤8))&&decide ((in_.Swaps.length:Int)≤8)) with
  |false=>rfl
  |true=>
   simp only[Bool.and_eq_true,decide_eq_true_eq] at hC
   obtain⟨v,ev,kv⟩:=V1 hN b
   rw[cond_true,ev,Option.bind_some,Option.bind_some]
   cases v with
   |false=>rfl
   |true=>
    have hb:=kv rfl
    obtain⟨v,e2,k2⟩:=Uw (N:=N) (by omega) hb.head s (by omega)
    rw[cond_true,e2,Option.bind_some,Option.bind_some,Option.bind_some]
    cases v with
    |false=>rfl
    |true=>
     have hs:=k2 rfl
     rw[Bool.not_true,Bool.false_or]
     by_cases hsw:0<(in_.Swaps.length:Int)
     ·rw[decide_eq_true hsw];rfl
     ·rw[decide_eq_false hsw,cond_false]
      obtain⟨r,ns,o3,l,er,h⟩:=Xg hN hb.head hb.links hb.places hs.x (by omega) (in_:=in_) (by omega) (by omega) (by omega) (List.length_eq_zero_iff.1 (by omega))
      rw[er,Option.bind_some]
      exact Tc hN hb.head hs.x (by omega) h
theorem Oq (b:AX) (s:Aj) (in_:Ek):FQ BN b s in_=some true:=Q9 gV Xi b s in_
end Go.Proofs.YtblcgjadhemlbaaGreat
namespace Go.Proofs.YtblcgjadhemlbaaGreat
open Go.ChangeShapes Go.WideShapes Go.ChangeAt Go.RowKit Go.Deep
set_option linter.unusedVariables false
def Eg {α}(P:Program) (t:TypeId) (r:AM α):Prop:=
 P.cellsOf t=r.sz∧∀{H:Type} {enc:TypeId×Value→H} {w:World} {base:Nat} {spare:Nat→Bool} {held:Bool} {fuel:Nat} {cs:List Value} {x:DataW H×List MemPlace},
  DataW.trod enc P w base spare held fuel t cs=some x→∃y,r.rd (λb=>b<w.heap.size) w.heap cs y
theorem Xw {n:Int}(h:(Lit.int .i64 n).wf=true):AH n:=by
 simpa [Lit.wf,IntKind.min,IntKind.max,IntKind.signed,IntKind.bits,AH] using h
theorem U7 {P:Program}{t:TypeId}(hc:P.cellsOf t=1) (hu:P.underlying t=some (.int .i64)):Eg P t AM.int:=by
 refine⟨hc,λ{H enc w base spare held fuel cs x} h=>?_⟩
 cases fuel with
 |zero=>simp [DataW.trod] at h
 |succ n=>
  unfold DataW.trod at h
  simp only[hu] at h
  split at h<;>simp_all
  rename_i k n' hh
  obtain⟨⟨rfl,hwf⟩,_⟩:=h
  subst hh
  exact⟨n',rfl,Xw hwf⟩
theorem TZ {P:Program}{t:TypeId}(hc:P.cellsOf t=1) (hu:P.underlying t=some .bool):Eg P t AM.bool:=by
 refine⟨hc,λ{H enc w base spare held fuel cs x} h=>?_⟩
 cases fuel with
 |zero=>simp [DataW.trod] at h
 |succ n=>
  unfold DataW.trod at h
  simp only[hu] at h
  split at h<;>first|(exact ⟨_,rfl⟩)|simp_all
theorem U6 {P:Program}{t:TypeId}(hc:P.cellsOf t=1) (hu:P.underlying t=some .string):Eg P t AM.str:=by
 refine⟨hc,λ{H enc w base spare held fuel cs x} h=>?_⟩
 cases fuel with
 |zero=>simp [DataW.trod] at h
 |succ n=>
  unfold DataW.trod at h
  simp only[hu] at h
  split at h<;>simp_all
  exact⟨_,rfl,h.1⟩
theorem Of {α}{p:Nat→α→Prop}:∀n,(∀i,i<n→∃x,p i x)→∃l:List α,l.length=n∧∀i x,l[i]? =some x→p i x
 |0,_=>⟨[],rfl,λi x h=>by simp at h⟩
 |n+1,h=>by
  obtain⟨l,h1,h2⟩:=Of n λi hi=>h i (by omega)
  obtain⟨x,hx⟩:=h n (by omega)
  refine⟨l++[x],by simp [h1],λi y hy=>?_⟩
  rw[List.getElem?_append] at hy
  split at hy
  ·exact h2 i y hy
  ·rename_i hi
   have:i-l.length=0:=by
    have:=(List.getElem?_eq_some_iff.1 hy).1
    simp at this;omega
   rw[this] at hy
   simp at hy
   subst hy
   have:i=n:=by omega
   subst this
   exact hx
theorem GA {P:Program}{t e:TypeId}{α}{r:AM α}(hc:P.cellsOf t=1) (hu:P.underlying t=some (.slice e)) (he:Eg P e r) (hz:Nat.blt 0 r.sz=true):Eg P t (AM.sl r):=by
 refine⟨hc,λ{H enc w base spare held fuel cs x} h=>?_⟩
 have hz':0<r.sz:=(by simpa [Nat.blt] using hz:1≤r.sz)
 rcases open_slice hu h with ⟨rfl,_⟩|⟨a,len,cap,m,n,D,Pl,rfl,hb,hlc,hcm,hm,_,hel⟩
 ·exact⟨[],_,rfl,.inl ⟨rfl,rfl⟩⟩
 ·have hlm:len≤m:=by rw[hm];split<;>omega
  obtain⟨l,hl,hat⟩:=Of (p:=λi x=>a.spot=none∧Pt (λb=>b<w.heap.size) w.heap r (.pointer (some ⟨a.block,a.off+i*r.sz,none⟩)) x) len λi hi=>by
   obtain⟨cs',hc',ht'⟩:=hel i (by omega)
   obtain⟨y,hy⟩:=he.2 ht'
   obtain⟨_,hlen,IA⟩:=World.cells?_some hc'
   rw[he.1] at hlen IA
   have hsp:a.spot=none:=by
    obtain⟨cs0,hc0,_⟩:=hel 0 (by omega)
    obtain⟨_,hlen0,hcell0⟩:=World.cells?_some hc0
    rw[he.1] at hlen0 hcell0
    have h0:=hcell0 0 hz'
    have ha:(a.add (0*r.sz)).add 0=a:=by simp [Addr.add]
    rw[ha] at h0
    cases hs:a.spot with
    |none=>rfl
    |some s=>
     have:w.cell? a=none:=by
      unfold World.cell?
      split
      ·simp [hs]
      ·rfl
     rw[this] at h0
     have:cs0[0]? =some (cs0[0]'(by omega)):=List.getElem?_eq_getElem (by omega)
     rw[this] at h0
     cases h0
   obtain⟨b,o,s⟩:=a
   simp only at hsp
   subst hsp
   have hadd:∀j,((⟨b,o,none⟩:Addr).add (i*r.sz)).add j=⟨b,o+i*r.sz+j,none⟩:=by
    intro j
    have e1:(⟨b,o,none⟩:Addr).add (i*r.sz)=⟨b,o+i*r.sz,none⟩:=by unfold Addr.add;split<;>simp_all
    rw[e1];unfold Addr.add;split<;>simp_all
   have hblk:b<w.heap.size:=by
    have h0:=IA 0 hz'
    rw[hadd] at h0
    have:cs'[0]? =some (cs'[0]'(by omega)):=List.getElem?_eq_getElem (by omega)
    rw[this] at h0
    exact World.block_lt_of_cell? w _ h0
   refine⟨y,rfl,cs',⟨⟨b,o+i*r.sz,none⟩,rfl,rfl,hblk,λj hj=>?_⟩,hy⟩
   have:=IA j (by omega)
   rw[hadd] at this
   exact this
  exact⟨l,_,rfl,.inr ⟨a,cap,by rw[hl],by omega,hcm,hat⟩⟩
theorem DI {P:Program}{t:TypeId}{fs:Array Field}(hu:P.underlying t=some (.struct fs)) {H:Type}{enc:TypeId×Value→H}{w:World}{base:Nat}{spare:Nat→Bool}{held:Bool}{fuel:Nat}{cs:List Value}{x:DataW H×List MemPlace}
  (h:DataW.trod enc P w base spare held fuel t cs=some x):cs.length=P.cellsOf t∧∀(j:Nat) (f:Field) {α} (r:AM α),fs[j]? =some f→Eg P f.type r→∃y,r.rd (λb=>b<w.heap.size) w.heap ((cs.drop f.offset).take r.sz) y:=by
 obtain⟨xs,n,_,_,hl,hlen,hf⟩:=DataW.trod_struct hu h
 refine⟨hl,λj f α r hj ho=>?_⟩
 have h1:=hf j f hj
 have hjl:j<xs.length:=by rw[hlen];exact(Array.getElem?_eq_some_iff.1 hj).1
 rw[List.getElem?_eq_getElem hjl,ho.1] at h1
 exact ho.2 h1
theorem Ti {P:Program}{t:TypeId}{fs:Array Field}{α}{r:AM α}(ho:Eg P t r) (hag:r.ag=true) (hu:P.underlying t=some (.struct fs)) {H:Type}{enc:TypeId×Value→H}{w:World}{rch:Reach}{b0 base:Nat}{spare:Nat→Bool}{held:Bool}{v:Value}{d:DataW H}{p:List MemPlace}
  (hv:Value.okWide P w rch b0 t v) (h:DataW.Trod enc P w base spare held t v d p):∃y,Rd (λb=>b<w.heap.size) w.heap r v y:=by
 obtain⟨cs,rfl,_⟩:=okWide_struct hu hv
 obtain⟨fuel,hf⟩:=h
 obtain⟨y,hy⟩:=ho.2 hf
 exact⟨y,cs.toList,by simp [AM.val,hag],hy⟩
theorem NJ {H:Type}{enc:TypeId×Value→H}{P:Program}(hl:laidOutB P=true) {W W':World}(hb:Below W.heap.size W W'):
  ∀{ts:List TypeId} {vs:List Value} {ds:List (DataW H)} {ps:List MemPlace},(∀t∈ts,P.readableRec t=true∧t<P.types.size)→DataW.TrodAll enc P W 0 (λ_=>true) true ts vs ds ps→(∀x∈ps,x.block<W.heap.size)→
   ∀sp:Nat→Bool,(∀x∈ps,sp x.block=true)→DataW.TrodAll enc P W' 0 sp true ts vs ds ps
 |[],vs,ds,ps,_,h,_,sp,_=>by
  obtain⟨rfl,rfl,rfl⟩:=trodAll_nil h
  exact rfl
 |t::ts,vs,ds,ps,ht,h,hlt,sp,hsp=>by
  obtain⟨v,vs',d,ds',p,q,rfl,rfl,rfl,h1,h2⟩:=trodAll_cons h
  obtain⟨r1,r2⟩:=ht t (by simp)
  refine⟨p,q,WideElems.Trod_stays hl r1 r2 h1 (λx hx=>hb.same (hlt x (by simp [hx]))) (λx hx=>hsp x (by simp [hx])),?_,rfl⟩
  exact NJ hl hb (λt ht'=>ht t (by simp [ht'])) h2 (λx hx=>hlt x (by simp [hx])) sp λx hx=>hsp x (by simp [hx])
theorem WH {H:Type}{enc:TypeId×Value→H}{P:Program}{f:Func}{s:ChangeSpec}{W W':World}{args:Array Value}{ds gs:List (DataW H)}{before:List MemPlace}{tb:TypeId}
  (hl:laidOutB P=true) (hts:f.params.toList.all (λt=>P.readableRec t&&decide (t<P.types.size))=true) (hW:DataW.Whole enc P f.params.toList s.vars false W args.toList ds gs before)
  (hr:f.resultTypes= #[tb]) (hu:P.underlying tb=some .bool) (hvars:s.vars=[]) (h1:(s.fn H (ds++gs)).results=[.lit (.bool true)]) (h2:(s.fn H (ds++gs)).args=ds) (h3:(s.fn H (ds++gs)).vars=[])
  (hb:Below W.heap.size W W'):s.post enc P f false true false false W args (.bool true) W':=by
 have hlt:∀p∈before,p.block<W.heap.size:=λp hp=>hW.lt p hp
 obtain⟨pa,pv,hA,hV,rfl,hz,hn⟩:=id hW
 rw[hvars] at hV
 obtain⟨rfl,rfl⟩:=trodVars_none hV
 simp only[List.append_nil] at*
 refine⟨ds,[],pa,[],pa,[],by simpa using hW,?_,?_,?_,?_,λh=>by cases h⟩
 ·simp only[List.append_nil]
  rw[h1,hr]
  exact trodAll_mk1 (shut_bool hu true)
 ·simp only[List.append_nil]
  rw[h2]
  refine NJ hl hb (λt ht=>?_) hA hlt _ λx hx=>by simpa using hlt x hx
  have:=List.all_eq_true.1 hts t ht
  simpa using this
 ·simp only[List.append_nil]
  rw[h3,hvars]
  exact rfl
 ·exact hb.frame _
theorem VA {P:Program}{f:FuncId}{args:Array Value}{W:World}{L:(Nat→Prop)→Aw→Prop}(k:CL P f args (λb=>b<W.heap.size) W.heap (λv S' h'=>v= .bool true∧L S' h')):
  Calls P f args W λe W'=>e= .returned (.bool true)∧Below W.heap.size W W':=
 (k W W ⟨rfl,rfl,rfl,rfl⟩).mono λe W' ⟨v,S',h',h1,h2,h3,h4,_⟩=>by
  subst h1;subst h4
  exact⟨rfl,h2.os,h2.tape,h2.out,by rw[h2.heap];exact h3.siz,λb hb=>by rw[h2.heap];exact h3.same b hb⟩
end Go.Proofs.YtblcgjadhemlbaaGreat
