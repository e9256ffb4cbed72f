import Derived.Test.YtblcgjadhemlbaaGreatUPureC2
import Derived.Test.YtblcgjadhemlbaaGreatUPureC1
import Derived.Test.YtblcgjadhemlbaaGreatUPureGt
namespace Go.Proofs.YtblcgjadhemlbaaGreat
open Go.RowKit
set_option linter.unusedVariables false
set_option linter.unusedSimpArgs false
def MQ (o:Nat) (w:List (List Int)):Int:=(w.map λx=>x.getD o 0).sum
def LA (o:Nat) (q:List Ao):Int:=(q.map λl=>l.Part.getD o 0).sum
theorem Qr {o:Nat}{w:List (List Int)}{k:Nat}(h:k<w.length):MQ o (w.take (k+1))=MQ o (w.take k)+(w[k]).getD o 0:=LO (f:=λx:List Int=>x.getD o 0) h
theorem Qq {o:Nat}{q:List Ao}{k:Nat}(h:k<q.length):LA o (q.take (k+1))=LA o (q.take k)+(q[k]).Part.getD o 0:=LO (f:=λl:Ao=>l.Part.getD o 0) h
theorem TB (o:Nat) (a b:List Ao):LA o (a++b)=LA o a+LA o b:=by unfold LA;rw[List.map_append,List.sum_append]
theorem XS {o:Nat}{w:List (List Int)}{k:Nat}{x y:List Int}(hk:w[k]? =some x):MQ o (upd w (k:Int) y)=MQ o w-x.getD o 0+y.getD o 0:=by
 have hl:=(List.getElem?_eq_some_iff.1 hk).1
 have hx:=(List.getElem?_eq_some_iff.1 hk).2
 unfold MQ upd
 rw[Int.toNat_natCast,List.map_set,La (by simpa using hl),List.getElem_map,hx]
theorem UB {N W:Nat}(hN:1000000<N) (hW:W≤1000) {p q:List Int}(hp:p.length=W) (hq:q.length=W) (bp:∀x∈p, -2305843009213693952≤x∧x≤2305843009213693952) (bq:∀x∈q, -2305843009213693952≤x∧x≤2305843009213693952):Hc N p q=some (E0 p q):=by
 unfold Hc
 have hm:min (p.length:Int) (q.length:Int)=(q.length:Int):=by omega
 obtain⟨s,⟨i1,i2,i3⟩,e⟩:=Da q.length (λn i s=>EV N q p n i s) (λs=>some s) (λk s=>s.length=p.length∧(∀i,k≤i→s[i]? =p[i]?)∧∀i,i<k→s[i]? =(E0 p q)[i]?) (λn k s hk=>by
  simp only[EV];rw[hm,Ey hk];rfl) (λn k s hi hk=>by
  obtain⟨i1,i2,i3⟩:=hi
  simp only[EV]
  have hks:k<s.length:=by omega
  have hkp:k<p.length:=by omega
  have hsk:s[k]=p[k]:=by
   have:=i2 k (Nat.le_refl _)
   rw[List.getElem?_eq_getElem hks,List.getElem?_eq_getElem hkp] at this
   exact Option.some.inj this
  have h1:=bp _ (List.getElem_mem hkp)
  have h2:=bq _ (List.getElem_mem hk)
  rw[hm,Ea hk,cond_true,BA hks,Option.bind_some,Option.bind_some,BA hk,Option.bind_some,hsk,Rv N (by omega) (by omega) (by omega) (by omega),Option.bind_some,Option.bind_some,Option.bind_some,BE (by omega)]
  refine⟨_,⟨by rw[Kt];exact i1,λi hi=>by rw[Gy (by omega)];exact i2 i (by omega),λi hi=>?_⟩,rfl⟩
  by_cases hne:k=i
  ·subst hne
   rw[FQ hks,E0,List.getElem?_zipWith,List.getElem?_eq_getElem hkp,List.getElem?_eq_getElem hk]
  ·rw[Gy hne];exact i3 i (by omega)) N 0 p ⟨rfl,λi _=>rfl,λi hi=>by omega⟩ (by omega) (Nat.zero_le _)
 have:s=E0 p q:=List.ext_getElem? λi=>by
  rcases Nat.lt_or_ge i q.length with h|h
  ·exact i3 i h
  ·rw[List.getElem?_eq_none (by omega),List.getElem?_eq_none (by simp [E0];omega)]
 subst this
 exact e
theorem PX.bd {W:Nat}{p:List Int}(h:PX W p):∀x∈p, -2305843009213693952≤x∧x≤2305843009213693952:=λx hx=>by
 have:=h.mem hx
 omega
theorem UA {N W P:Nat}(hN:1000000<N) (hW:W≤1000) {s:Ak}(ho:HM P W s.Own) (hP:P≤1000) (hq:s.Queue.length≤900000) (hqx:QX P W s.Queue) (hin:s.In.length=W) (ht:Dy s.Own+Ex s.Queue≤1125899906842624):∃v,GV N s=some v∧PX W v∧v.sum=Dy s.Own+Ex s.Queue∧∀o,o<W→v.getD o 0=MQ o s.Own+LA o s.Queue:=by
 have hol:=ho.len
 have ho0:=ho.sum0
 have hq0:=(Eq hqx 0).2
 rw[List.take_zero,show Ex ([]:List Ao)=0 from rfl] at hq0
 have hz:List.replicate ((s.In.length:Int)).toNat (0:Int)=List.replicate W 0:=by rw[hin];rfl
 have hgz:∀o,o<W→(List.replicate W (0:Int)).getD o 0=0:=λo ho=>by rw[List.getD_eq_getElem?_getD,List.getElem?_replicate,if_pos ho];rfl
 unfold GV
 rw[I5 (by omega) _ (by decide),hz]
 obtain⟨a,⟨i1,i2,i3⟩,e1⟩:=Da s.Own.length (λn i a=>Er N s (Es N s) n i a) (Es N s) (λk a=>PX W a∧a.sum=Dy (s.Own.take k)∧∀o,o<W→a.getD o 0=MQ o (s.Own.take k)) (λn k a hk=>by
  simp only[Er];rw[Ey hk];rfl) (λn k a hi hk=>by
  obtain⟨i1,i2,i3⟩:=hi
  have hx:=ho.all _ (List.getElem_mem hk)
  have h2:=KO ho (k+1)
  rw[KT hk] at h2 ⊢
  simp only[Er]
  rw[Ea hk,cond_true,BA hk,Option.bind_some,UB hN hW i1.len hx.len i1.bd hx.bd,Option.bind_some,BE (by omega)]
  refine⟨_,⟨i1.add hx (by omega),by rw[H1 (i1.len.trans hx.len.symm),i2],λo ho=>?_⟩,rfl⟩
  rw[Ja i1.len hx.len ho,Qr hk,i3 o ho]) N 0 (List.replicate W 0) ⟨PX.zero W,by simp [Dy],λo ho=>by rw[hgz o ho];rfl⟩ (by omega) (Nat.zero_le _)
 rw[show Er N s (Es N s) N 0 (List.replicate W 0)=Es N s a from e1]
 rw[List.take_length] at i2 i3
 unfold Es
 obtain⟨v,⟨j1,j2,j3⟩,e2⟩:=Da s.Queue.length (λn i a=>Fa N s (G2 N) n i a) (G2 N) (λk a=>PX W a∧a.sum=Dy s.Own+Ex (s.Queue.take k)∧∀o,o<W→a.getD o 0=MQ o s.Own+LA o (s.Queue.take k)) (λn k a hk=>by
  simp only[Fa];rw[Ey hk];rfl) (λn k a hi hk=>by
  obtain⟨i1,i2,i3⟩:=hi
  have hx:=(hqx _ (List.getElem_mem hk)).1
  have h2:=Eq hqx (k+1)
  rw[Jd hk] at h2 ⊢
  simp only[Fa]
  rw[Ea hk,cond_true,BA hk,Option.bind_some,UB hN hW i1.len hx.len i1.bd hx.bd,Option.bind_some,BE (by omega)]
  refine⟨_,⟨i1.add hx (by omega),by rw[H1 (i1.len.trans hx.len.symm),i2];omega,λo ho=>?_⟩,rfl⟩
  rw[Ja i1.len hx.len ho,Qq hk,i3 o ho];omega) N 0 a ⟨i1,by rw[i2];simp [Ex],λo ho=>by rw[i3 o ho];simp [LA]⟩ (by omega) (Nat.zero_le _)
 rw[List.take_length] at j2 j3
 exact⟨v,e2,j1,j2,j3⟩
def VL (m:Ae):Bool:=decide (m.To<0)
theorem Pa (b:AW) (H:Int) (o:Nat):∀(l:List Ae),LA o (l.filterMap (Kc b H))+NK o (l.filter VL)=NK o l∧Ex (l.filterMap (Kc b H))+HY (l.filter VL)=HY l
 |[]=>⟨rfl,rfl⟩
 |m::l=>by
  obtain⟨h1,h2⟩:=Pa b H o l
  have g:∀l,NK o (m::l)=m.Part.getD o 0+NK o l:=λl=>by unfold NK;rw[List.map_cons,List.sum_cons]
  have g2:∀l,HY (m::l)=m.Part.sum+HY l:=λl=>by unfold HY;rw[List.map_cons,List.sum_cons]
  by_cases h:m.To<0
  ·rw[List.filterMap_cons_none (by unfold Kc;rw[if_pos h]),List.filter_cons_of_pos (by unfold VL;simpa using h),g,g,g2,g2]
   omega
  ·rw[List.filterMap_cons_some (b:=(⟨BC (BC (H+1)+Pu b m.From.toNat m.Way),m.To,m.Part⟩:Ao)) (by unfold Kc;rw[if_neg h]),List.filter_cons_of_neg (by unfold VL;simpa using h),g,g2]
   have c1:∀(x:Ao) l,LA o (x::l)=x.Part.getD o 0+LA o l:=λx l=>by unfold LA;rw[List.map_cons,List.sum_cons]
   have c2:∀(x:Ao) l,Ex (x::l)=x.Part.sum+Ex l:=λx l=>by unfold Ex;rw[List.map_cons,List.sum_cons]
   rw[c1,c2]
   simp only
   omega
theorem PB {W:Nat}{l:List Ae}(h:∀m∈l,PX W m.Part):0≤HY l:=by
 unfold HY
 exact O9 (f:=λm:Ae=>m.Part.sum) λm hm=>(h m hm).sum0
theorem Tg {N W:Nat}(hN:1000000<N) (hW:W≤1000):∀{l:List Ae}{out:List Int},(∀m∈l,PX W m.Part)→out.length=W→(∀x∈out,0≤x)→out.sum+HY l≤2305843009213693952→(QK N out l).length=W∧(∀x∈QK N out l,0≤x)∧(QK N out l).sum=out.sum+HY (l.filter VL)∧∀o,o<W→(QK N out l).getD o 0=out.getD o 0+NK o (l.filter VL)
 |[],out,_,hl,h0,_=>⟨hl,h0,by show out.sum=out.sum+0;omega,λo _=>by show out.getD o 0=out.getD o 0+0;omega⟩
 |m::l,out,hp,hl,h0,hs=>by
  have hm:=hp m (.head _)
  have hln:=PB (l:=l) λm hm=>hp m (.tail _ hm)
  have g2:∀l,HY (m::l)=m.Part.sum+HY l:=λl=>by unfold HY;rw[List.map_cons,List.sum_cons]
  have g:∀o l,NK o (m::l)=m.Part.getD o 0+NK o l:=λo l=>by unfold NK;rw[List.map_cons,List.sum_cons]
  rw[g2] at hs
  have hm0:=hm.sum0
  rw[show QK N out (m::l)=QK N (if m.To<0 then (Fl N out m.Part).getD [] else out) l from rfl]
  by_cases h:m.To<0
  ·rw[if_pos h,UP hN (by omega) (by rw[hm.len,hl]) (λx hx=>by have:=Gk h0 x hx;have:=h0 x hx;omega) hm.bd,Option.getD_some,List.filter_cons_of_pos (by unfold VL;simpa using h)]
   have hvs:(E0 out m.Part).sum=out.sum+m.Part.sum:=H1 (hl.trans hm.len.symm)
   obtain⟨k1,k2,k3,k4⟩:=Tg hN hW (l:=l) (out:=E0 out m.Part) (λm hm=>hp m (.tail _ hm)) (Js hl hm.len) (NU h0 hm.nn) (by omega)
   exact⟨k1,k2,by rw[k3,hvs,g2];omega,λo ho=>by rw[k4 o ho,Ja hl hm.len ho,g];omega⟩
  ·rw[if_neg h,List.filter_cons_of_neg (by unfold VL;simpa using h)]
   exact Tg hN hW (l:=l) (λm hm=>hp m (.tail _ hm)) hl h0 (by omega)
theorem Sh {b:AW}{H:Int}{W o:Nat}(hoW:o<W):∀{l:List Ae}{w:List (List Int)},HM b.Places.length W w→OJ l w→(∀m∈l,∃p,p<b.Places.length∧jB b H W p m)→MQ o (Ox w l)+NK o l=MQ o w
 |[],w,_,_,_=>by show MQ o w+0=_;omega
 |m::l,w,ho,hv,hm=>by
  obtain⟨⟨x,hx,hle⟩,hv2⟩:=hv
  obtain⟨p,hp,hmp⟩:=hm m (.head _)
  have hxp:=ho.all x (List.mem_of_getElem? hx)
  have hsx:=hle.sub hxp
  have hgd:w.getD m.From.toNat []=x:=by rw[List.getD_eq_getElem?_getD,hx];rfl
  have g:∀o l,NK o (m::l)=m.Part.getD o 0+NK o l:=λo l=>by unfold NK;rw[List.map_cons,List.sum_cons]
  have hu:upd w m.From (Ho x m.Part)=upd w ((m.From.toNat:Nat):Int) (Ho x m.Part):=by rw[hmp.fr,Int.toNat_natCast]
  rw[hgd] at hv2
  have ih:=Sh hoW (l:=l) (w:=upd w m.From (Ho x m.Part)) (ho.upd _ hsx.1) hv2 λm hm2=>hm m (.tail _ hm2)
  rw[show Ox w (m::l)=Ox (upd w m.From (Ho (w.getD m.From.toNat []) m.Part)) l from rfl,hgd,g]
  rw[hu,XS hx,U8 hxp.len hsx.2.2.len hoW] at ih
  rw[hu]
  omega
end Go.Proofs.YtblcgjadhemlbaaGreat
namespace Go.Proofs.YtblcgjadhemlbaaGreat
open Go.RowKit
set_option linter.unusedVariables false
set_option linter.unusedSimpArgs false
def sm (f:Nat→Int):Nat→Int
 |0=>0
 |n+1=>sm f n+f n
theorem Kb {f g:Nat→Int}:∀{n:Nat},(∀i,i<n→f i=g i)→sm f n=sm g n
 |0,_=>rfl
 |n+1,h=>by rw[sm,sm,Kb λi hi=>h i (by omega),h n (by omega)]
theorem RC (f g:Nat→Int):∀n,sm (λi=>f i+g i) n=sm f n+sm g n
 |0=>rfl
 |n+1=>by rw[sm,sm,sm,RC f g n];omega
theorem RB:∀n,sm (λ_=>0) n=0
 |0=>rfl
 |n+1=>by rw[sm,RB n];rfl
theorem V9 {j:Nat}(c:Int):∀n,sm (λi=>if i=j then c else 0) n=if j<n then c else 0
 |0=>by rw[if_neg (by omega)];rfl
 |n+1=>by
  rw[sm,V9 c n]
  by_cases h:n=j
  ·rw[if_pos h,if_neg (by omega),if_pos (by omega)];omega
  ·rw[if_neg h]
   by_cases h2:j<n
   ·rw[if_pos h2,if_pos (by omega)];omega
   ·rw[if_neg h2,if_neg (by omega)];omega
theorem V8 (l:List Int):∀n,n≤l.length→sm (λp=>l.getD p 0) n=(l.take n).sum
 |0,_=>by simp [sm]
 |n+1,h=>by
  rw[H2 (show n<l.length by omega),sm,V8 l n (by omega)]
  simp [List.getD_eq_getElem?_getD,show n<l.length by omega]
end Go.Proofs.YtblcgjadhemlbaaGreat
namespace Go.Proofs.YtblcgjadhemlbaaGreat
open Go.RowKit
set_option linter.unusedVariables false
set_option linter.unusedSimpArgs false
theorem Rr (o:Nat) (w:List (List Int)):∀n,n≤w.length→MQ o (w.take n)=sm (λp=>(w.getD p []).getD o 0) n
 |0,_=>by simp [MQ,sm]
 |n+1,h=>by
  rw[Qr (show n<w.length by omega),sm,Rr o w n (by omega)]
  simp [List.getD_eq_getElem?_getD,show n<w.length by omega]
theorem Ur {P W o:Nat}(ho:o<W) {t:Int}{q:List Ao}(hq:QX P W q):∀k,k≤q.length→sm (λp=>(KP W t (q.take k) p).getD o 0) P+LA o (JY t (q.take k))=LA o (q.take k)
 |0,_=>by
  have h:sm (λp=>(KP W t (q.take 0) p).getD o 0) P=sm (λ_=>0) P:=Kb λp _=>by
   rw[List.take_zero]
   show(List.replicate W (0:Int)).getD o 0=0
   rw[List.getD_eq_getElem?_getD,List.getElem?_replicate,if_pos ho];rfl
  rw[h,RB,List.take_zero];rfl
 |k+1,hk=>by
  have hkl:k<q.length:=by omega
  have hx:=hq _ (List.getElem_mem hkl)
  have ih:=Ur ho (t:=t) hq k (by omega)
  rw[Qq hkl,NI hkl]
  by_cases hat:(q[k]).At≤t
  ·have h:=Kb (f:=λp=>(KP W t (q.take (k+1)) p).getD o 0) (g:=λp=>(KP W t (q.take k) p).getD o 0+if p=(q[k]).To.toNat then (q[k]).Part.getD o 0 else 0) (n:=P) λp hp=>by
    show(KP W t (q.take (k+1)) p).getD o 0=(KP W t (q.take k) p).getD o 0+if p=(q[k]).To.toNat then (q[k]).Part.getD o 0 else 0
    rw[LV hkl]
    by_cases e:(q[k]).To=(p:Int)
    ·rw[if_pos ⟨hat,e⟩,Ja (PM hq (t:=t) (p:=p) k (by omega)).1 hx.1.len ho,if_pos (by omega)]
    ·rw[if_neg (λh=>e h.2),if_neg (by omega)];omega
   rw[RC,V9,if_pos (by omega)] at h
   rw[if_pos hat,h]
   omega
  ·have h:=Kb (f:=λp=>(KP W t (q.take (k+1)) p).getD o 0) (g:=λp=>(KP W t (q.take k) p).getD o 0) (n:=P) λp hp=>by
    show(KP W t (q.take (k+1)) p).getD o 0=_
    rw[LV hkl,if_neg (λh=>hat h.1)]
   have h1:LA o [q[k]]=(q[k]).Part.getD o 0:=by simp [LA]
   rw[if_neg hat,TB,h,h1]
   omega
theorem Q4 {W:Nat}(h1:1≤W) (n:Int) (o:Nat):(v1 W n).getD o 0=if 0=o then n else 0:=WK (i:=0) h1
def Vd (m:Ae):Bool:=decide (m.Way= -4)
theorem Ni (f:Ae→Bool) {W:Nat}{l:List Ae}(h:∀m∈l,PX W m.Part) (k:Nat):0≤HY ((l.take k).filter f)∧HY ((l.take k).filter f)≤HY (l.filter f):=by
 have e:HY (l.filter f)=HY ((l.take k).filter f)+HY ((l.drop k).filter f):=by
  rw[←Kg,←List.filter_append,List.take_append_drop]
 have h1:=PB (l:=(l.take k).filter f) λm hm=>h m (List.mem_of_mem_take (List.mem_filter.1 hm).1)
 have h2:=PB (l:=(l.drop k).filter f) λm hm=>h m (List.mem_of_mem_drop (List.mem_filter.1 hm).1)
 omega
theorem Sb {H:Int}{W:Nat}(h1:1≤W):∀{l:List Int}{i:Nat},(∀n∈l,0≤n)→HY ((TN H W i l).filter Vd)=l.sum
 |[],_,_=>rfl
 |a::l,i,h=>by
  have h0:=h a (.head _)
  rw[TN,List.filter_append,Kg,Sb h1 (λn hn=>h n (.tail _ hn)),List.sum_cons]
  by_cases h2:0<a
  ·rw[if_pos h2]
   have e:[(⟨H, -1,(i:Int), -4,v1 W a⟩:Ae)].filter Vd=[(⟨H, -1,(i:Int), -4,v1 W a⟩:Ae)]:=by simp [Vd]
   have e2:HY [(⟨H, -1,(i:Int), -4,v1 W a⟩:Ae)]=a:=by
    show(v1 W a).sum+0=a
    rw[NF h1];omega
   rw[e,e2]
  ·rw[if_neg h2]
   show(0:Int)+_=_
   omega
theorem dK {N:Nat}(hN:1000000<N) {W:Nat}(hW:W≤1000) {r:Ak×List Ae×List Int}(hl:r.2.1.length≤100000) (hall:∀m∈r.2.1,PX W m.Part) (hs:HY (r.2.1.filter Vd)≤1125899906842624) (kj:Int→Option Bool):BL N r kj N 0 0=kj (HY (r.2.1.filter Vd)):=by
 obtain⟨s,i1,e⟩:=Da r.2.1.length (λn i s=>BL N r kj n s i) kj (λk s=>s=HY ((r.2.1.take k).filter Vd)) (λn k s hk=>by
  simp only[BL];rw[Ey hk];rfl) (λn k s hi hk=>by
  have hx:=hall _ (List.getElem_mem hk)
  have b1:=Ni Vd hall k
  have b2:=Ni Vd hall (k+1)
  rw[Od _ hk,Kg] at b2
  rw[Od _ hk,Kg]
  simp only[BL,DP]
  rw[Ea hk,cond_true,BE (by omega)]
  simp only[BA hk,Option.bind_some]
  by_cases e:(r.2.1[k]).Way= -4
  ·have er:Vd r.2.1[k]=true:=decide_eq_true e
   have e2:HY [r.2.1[k]]=(r.2.1[k]).Part.sum:=by simp [HY]
   rw[er,if_pos rfl,e2] at b2
   rw[er,if_pos rfl,e2,decide_eq_true e,cond_true,Mi hN (by rw[hx.len];omega) hx.nn (by have:=hx.mv;omega),Option.bind_some,DB (n:=s+(r.2.1[k]).Part.sum) (by omega) (by omega)]
   exact⟨_,by rw[hi],rfl⟩
  ·have er:Vd r.2.1[k]=false:=decide_eq_false e
   rw[er,if_neg (by decide),decide_eq_false e,cond_false]
   exact⟨_,by rw[hi];show _=_+(0:Int);omega,rfl⟩) N 0 0 rfl (by omega) (Nat.zero_le _)
 rw[List.take_length] at i1
 subst i1
 exact e
theorem So (R:List Int) {n:Nat}(h:R.length≤n):∀d,Ob R (n+d)=Ob R n
 |0=>rfl
 |d+1=>by
  show Ob R (n+d)+gk R (n+d)=_
  have:R.getD (n+d) 0=0:=by rw[List.getD_eq_getElem?_getD,List.getElem?_eq_none (by omega)];rfl
  rw[So R h d]
  unfold gk
  rw[this]
  omega
theorem Wl (R:List Int):∀n:Nat,0≤Ob R n∧Ob R n≤(n:Int)*1125899906842624
 |0=>⟨Int.le_refl _,Int.le_refl _⟩
 |n+1=>by
  have:=Wl R n
  simp only[Ob,gk]
  omega
theorem dJ {N:Nat}(hN:1000000<N) {b:AW}{in_:Ct}(hP:b.Places.length≤64) (kj:Int→Option Bool):Bn N b in_ kj N 0 0=kj (Ob in_.Rain b.Places.length):=by
 obtain⟨s,i1,e⟩:=Da (min in_.Rain.length b.Places.length) (λn i s=>Bn N b in_ kj n s i) kj (λk s=>s=Ob in_.Rain k) (λn k s hk=>by
  have h:(decide ((k:Int)<(in_.Rain.length:Int))&&decide ((k:Int)<(b.Places.length:Int)))=false:=by
   rw[Bool.and_eq_false_iff,decide_eq_false_iff_not,decide_eq_false_iff_not];omega
  simp only[Bn];rw[h];rfl) (λn k s hi hk=>by
  have h1:=Wl in_.Rain k
  have hk1:k<in_.Rain.length:=by omega
  have hk2:k<b.Places.length:=by omega
  have hg:in_.Rain.getD k 0=in_.Rain[k]:=by simp [List.getD_eq_getElem?_getD,hk1]
  simp only[Bn]
  rw[Ea hk1,Ea hk2,Bool.and_self,cond_true,BA hk1,Option.bind_some,BE (by omega),DB (n:=s+min (max in_.Rain[k] 0) 1125899906842624) (by omega) (by omega)]
  exact⟨_,by rw[hi];simp only[Ob,gk,hg],rfl⟩) N 0 0 rfl (by omega) (Nat.zero_le _)
 have h2:Ob in_.Rain (min in_.Rain.length b.Places.length)=Ob in_.Rain b.Places.length:=by
  rcases Nat.le_total in_.Rain.length b.Places.length with h|h
  ·have:=So in_.Rain (Nat.le_refl _) (b.Places.length-in_.Rain.length)
   rw[show in_.Rain.length+(b.Places.length-in_.Rain.length)=b.Places.length by omega] at this
   rw[show min in_.Rain.length b.Places.length=in_.Rain.length by omega,this]
  ·rw[show min in_.Rain.length b.Places.length=b.Places.length by omega]
 rw[h2] at i1
 subst i1
 exact e
theorem dI {N:Nat}(hN:1000000<N) {s:Ak}{in_:Ct}{r:Ak×List Ae×List Int}{v u:List Int}{W:Nat}(hW:W≤16) (hW1:1≤W) (hv:PX W v) (hu:PX W u) {g:Int}(hg:0≤g∧g≤1125899906842624) (hi:s.In.length=W) (hi0:∀x∈s.In,0≤x) (his:s.In.sum≤1152921504606846976) (hin:r.1.In=E0 s.In (v1 W g)) (ho:s.Out.length=W) (ho0:∀x∈s.Out,0≤x) (hos:s.Out.sum≤2305843009213693952) (hp:r.1.Out.length=W) (hp0:∀x∈r.1.Out,0≤x) (hps:r.1.Out.sum≤2305843009213693952) (hc:in_.Swaps.length=0→∀o,o<W→u.getD o 0+r.1.Out.getD o 0=v.getD o 0+s.Out.getD o 0+(v1 W g).getD o 0) (kj:Option Bool):Bm N s in_ r v u g kj N 0=kj:=by
 refine UT W (λn i=>Bm N s in_ r v u g kj n i) kj (λn k hk=>by
  simp only[Bm];rw[hv.len,Ey hk];rfl) (λn k hk=>by
  have hgv:=Q4 hW1 g k
  have hg0:0≤(v1 W g).getD k 0∧(v1 W g).getD k 0≤g:=by rw[hgv];split<;>omega
  have a1:=Nl hi0 k
  have a2:=Nm hi0 k
  have b1:=Nl hv.nn k
  have b2:=Nm hv.nn k
  have b3:=hv.mv
  have c1:=Nl hu.nn k
  have c2:=Nm hu.nn k
  have c3:=hu.mv
  have d1:=Nl ho0 k
  have d2:=Nm ho0 k
  have e1:=Nl hp0 k
  have e2:=Nm hp0 k
  have hI:(r.1.In).getD k 0=s.In.getD k 0+(v1 W g).getD k 0:=by rw[hin,Ja hi (KW _ _) hk]
  have hX:BC ((r.1.In).getD k 0-s.In.getD k 0)=(v1 W g).getD k 0:=by rw[hI,DB (by omega) (by omega)];omega
  have hB:((decide ((v1 W g).getD k 0≠0)&&decide ((k:Int)≠0))||(decide ((k:Int)=0)&&decide ((v1 W g).getD k 0≠g)))=false:=by
   rw[hgv]
   by_cases h0:0=k
   ·subst h0;simp
   ·rw[if_neg h0,decide_eq_false (show ¬(k:Int)=0 by omega)];simp
  simp only[Bm]
  rw[hv.len,Ea hk,cond_true,Mm (show k<r.1.In.length by rw[hin,Js hi (KW _ _)];exact hk),Option.bind_some,Mm (show k<s.In.length by omega),Option.bind_some,hX,hB,cond_false,BE (by omega)]
  by_cases hs:(in_.Swaps.length:Int)=0
  ·have hc1:=hc (by omega) k hk
   rw[decide_eq_true hs,cond_true,Mm (show k<u.length by rw[hu.len];exact hk)]
   simp only[Option.bind_some]
   rw[Mm (show k<r.1.Out.length by omega),Option.bind_some,Mm (show k<v.length by rw[hv.len];exact hk)]
   simp only[Option.bind_some]
   rw[Mm (show k<s.Out.length by omega)]
   simp only[Option.bind_some]
   rw[DB (n:=u.getD k 0+r.1.Out.getD k 0) (by omega) (by omega),DB (n:=v.getD k 0+s.Out.getD k 0) (by omega) (by omega),DB (n:=v.getD k 0+s.Out.getD k 0+(v1 W g).getD k 0) (by omega) (by omega),hc1,decide_eq_false (by simp),cond_false]
  ·rw[decide_eq_false hs,cond_false,Option.bind_some,cond_false]) N 0 (by omega) (Nat.zero_le _)
theorem dL {N:Nat}(hN:1000000<N) {s:Ak}{r:Ak×List Ae×List Int}{v u:List Int}{W:Nat}(hW:W≤16) (hv:PX W v) (hu:PX W u) {g gv:Int}(hg:0≤g∧g≤1125899906842624) (hgl:g≤gv) (ho:s.Out.length=W) (ho0:∀x∈s.Out,0≤x) (hos:s.Out.sum≤2305843009213693952) (hp:r.1.Out.length=W) (hp0:∀x∈r.1.Out,0≤x) (hps:r.1.Out.sum≤2305843009213693952) (hq:r.1.In.length=W) (hq0:∀x∈r.1.In,0≤x) (hqs:r.1.In.sum≤2305843009213693952) (hm:g=gv∨v.sum+g=1125899906842624∨r.1.In.sum=1152921504606846976) (hc:u.sum+r.1.Out.sum=v.sum+s.Out.sum+g):Ce N s true r v u g gv=some true:=by
 have hu1:Be N u=some u.sum:=Mi hN (by rw[hu.len];omega) hu.nn (by have:=hu.mv;omega)
 have hv1:Be N v=some v.sum:=Mi hN (by rw[hv.len];omega) hv.nn (by have:=hv.mv;omega)
 have ho1:Be N s.Out=some s.Out.sum:=Mi hN (by omega) ho0 hos
 have hp1:Be N r.1.Out=some r.1.Out.sum:=Mi hN (by omega) hp0 hps
 have hq1:Be N r.1.In=some r.1.In.sum:=Mi hN (by omega) hq0 hqs
 have x1:=hu.sum0
 have x2:=hv.sum0
 have x3:=Hr ho0
 have x4:=Hr hp0
 have x5:=hu.mv
 have x6:=hv.mv
 have key:Option.bind (cond (decide (g=gv)) (some true) (Option.bind (Be N v) λy309=>some (decide ((BC (y309+g))=1125899906842624)))) (λb308=>Option.bind (cond b308 (some true) (Option.bind (Be N r.1.In) λy316=>some (decide (y316=1152921504606846976)))) λb313=>some b313)=some true:=by
  by_cases e1:g=gv
  ·rw[decide_eq_true e1];rfl
  ·rw[decide_eq_false e1,cond_false,hv1,Option.bind_some,DB (n:=v.sum+g) (by omega) (by omega),Option.bind_some]
   by_cases e2:v.sum+g=1125899906842624
   ·rw[decide_eq_true e2];rfl
   ·rw[decide_eq_false e2,cond_false,hq1,Option.bind_some,decide_eq_true (by omega)];rfl
 unfold Ce
 rw[hu1,Option.bind_some,decide_eq_true x5,decide_eq_true hgl,Bool.and_self,cond_true,key,Option.bind_some,Bool.and_self,cond_true,Option.bind_some,hp1,Option.bind_some,hv1,Option.bind_some,ho1,Option.bind_some,DB (n:=u.sum+r.1.Out.sum) (by omega) (by omega),DB (n:=v.sum+s.Out.sum) (by omega) (by omega),DB (n:=v.sum+s.Out.sum+g) (by omega) (by omega),decide_eq_true hc]
 rfl
end Go.Proofs.YtblcgjadhemlbaaGreat
