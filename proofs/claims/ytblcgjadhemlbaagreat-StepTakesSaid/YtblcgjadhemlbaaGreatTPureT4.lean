import Derived.Test.YtblcgjadhemlbaaGreatTPureT1
import Derived.Test.YtblcgjadhemlbaaGreatTPureT2
namespace Go.Proofs.YtblcgjadhemlbaaGreat
open Go.RowKit
set_option linter.unusedVariables false
set_option linter.unusedSimpArgs false
theorem O2.at_:∀{l:List Ah}{o:List (List Int)},O2 l o→∀(j:Nat) (h:j<l.length),∃x,(RP o (l.take j))[(l[j]).From.toNat]? =some x∧TP (l[j]).Part x
 |m::l,o,h,0,_=>h.1
 |m::l,o,h,j+1,hj=>O2.at_ (l:=l) h.2 j (by simpa using hj)
theorem O9 {H:Int}{W:Nat}:∀{l:List Int}{i:Nat}{m:Ah},m∈RH H W i l→∃(k:Nat) (n:Int),n∈l∧0<n∧m=⟨H, -1,(k:Int), -4,v1 W n⟩
 |[],_,m,h=>by cases h
 |a::l,i,m,h=>by
  rw[RH] at h
  rcases List.mem_append.1 h with h|h
  ·split at h
   ·rename_i h0
    exact⟨i,a,List.mem_cons_self ..,h0,List.mem_singleton.1 h⟩
   ·cases h
  ·obtain⟨k,n,h1,h2,h3⟩:=O9 h
   exact⟨k,n,List.mem_cons_of_mem _ h1,h2,h3⟩
theorem WJ {H:Int}{W:Nat}:∀{l:List Int}{i:Nat}{m:Ah},m∈RH H W i l→(i:Int)≤m.To
 |[],_,m,h=>by cases h
 |a::l,i,m,h=>by
  rw[RH] at h
  rcases List.mem_append.1 h with h|h
  ·split at h
   ·rw[List.mem_singleton.1 h];exact Int.le_refl _
   ·cases h
  ·have:=WJ h
   omega
theorem PR {P W:Nat}{t:Int}{q:List Av}(hq:QX P W q) {p:Nat}:∀k,k≤q.length→(Lq W t (q.take k) p).length=W∧∀x∈Lq W t (q.take k) p,0≤x
 |0,_=>⟨by simp [Lq],λx hx=>(PX.zero W).nn x hx⟩
 |k+1,hk=>by
  obtain⟨h1,h2⟩:=PR hq k (by omega)
  rw[Mz (by omega)]
  split
  ·have h3:=(hq _ (List.getElem_mem (show k<q.length by omega))).1
   exact⟨MF h1 h3.len,Q3 h2 h3.nn⟩
  ·exact⟨h1,h2⟩
end Go.Proofs.YtblcgjadhemlbaaGreat
namespace Go.Proofs.YtblcgjadhemlbaaGreat
open Go.RowKit
set_option linter.unusedVariables false
set_option linter.unusedSimpArgs false
def N0 (b:AW) (p o:Nat) (h:Int) (ts:List FK) (n:Int):Int:=ts.foldl (λn t=>if HR b p t=true∧t.Owner=(o:Int) then min h (n+min t.Litres h) else n) n
theorem Va {b:AW}{p o:Nat}{h n:Int}{ts:List FK}{k:Nat}(hk:k<ts.length):N0 b p o h (ts.take (k+1)) n=if HR b p ts[k]=true∧(ts[k]).Owner=(o:Int) then min h (N0 b p o h (ts.take k) n+min (ts[k]).Litres h) else N0 b p o h (ts.take k) n:=by
 unfold N0
 rw[List.take_succ_eq_append_getElem hk,List.foldl_append];rfl
theorem PQ {b:AW}{p o:Nat}{h:Int}(h0:0≤h):∀{ts:List FK}{n:Int},0≤n→n≤h→0≤N0 b p o h ts n∧N0 b p o h ts n≤h
 |[],n,a,c=>⟨a,c⟩
 |t::ts,n,a,c=>by
  rw[show N0 b p o h (t::ts) n=N0 b p o h ts (if HR b p t=true∧t.Owner=(o:Int) then min h (n+min t.Litres h) else n) from rfl]
  by_cases e:HR b p t=true∧t.Owner=(o:Int)
  ·have hl:0<t.Litres:=by
    have:=e.1
    unfold HR at this
    simp only[Bool.and_eq_true,decide_eq_true_eq] at this
    exact this.1.2
   rw[if_pos e]
   exact PQ h0 (by omega) (by omega)
  ·rw[if_neg e]
   exact PQ h0 a c
def J0 (o:Nat) (ms:List Ah):Int:=(ms.map λm=>m.Part.getD o 0).sum
theorem Jz (o:Nat) (a c:List Ah):J0 o (a++c)=J0 o a+J0 o c:=by unfold J0;rw[List.map_append,List.sum_append]
theorem Sd {W i o:Nat}{c:Int}(hi:i<W):((List.replicate W (0:Int)).set i c).getD o 0=if i=o then c else 0:=by
 rw[List.getD_eq_getElem?_getD,List.getElem?_set]
 by_cases e:i=o
 ·subst e;simp [hi]
 ·rw[if_neg e,if_neg e,List.getElem?_replicate]
  by_cases h:o<W<;>simp [h]
theorem UI {W i:Nat}{c:Int}(hi:i<W):((List.replicate W (0:Int)).set i c).sum=c:=by
 rw[NZ (by simpa using hi)];simp
theorem U9 {W o:Nat}{x y:List Int}(hx:x.length=W) (hy:y.length=W) (ho:o<W):(H4 x y).getD o 0=x.getD o 0-y.getD o 0:=by
 have h1:o<x.length:=by omega
 have h2:o<y.length:=by omega
 unfold H4
 simp [List.getD_eq_getElem?_getD,List.getElem?_zipWith,h1,h2]
theorem UG {N:Nat}(hN:18446744073709551616<N) {b:AW}{p:Nat}{t:FK}(hb:HR b p t=true) (hW:b.Owners.length≤64) {x:List Int}(hx:PX b.Owners.length x):∃i:Nat,t.Owner=(i:Int)∧i<b.Owners.length∧0<t.Litres∧(Lv N t).take x=some ((List.replicate b.Owners.length 0).set i (min t.Litres (x.getD i 0)),H4 x ((List.replicate b.Owners.length 0).set i (min t.Litres (x.getD i 0))))∧TP ((List.replicate b.Owners.length 0).set i (min t.Litres (x.getD i 0))) x:=by
 unfold HR at hb
 simp only[Bool.and_eq_true,decide_eq_true_eq] at hb
 obtain⟨⟨⟨h1,h2,h3⟩,h4⟩,h5⟩:=hb
 obtain⟨y,e,hv,_,hk⟩:=Uf (N:=N) (by omega) (by omega) hx t.Owner t.Litres
 refine⟨t.Owner.toNat,by omega,by omega,h4,?_,?_⟩
 ·have:=hk ⟨t.Owner.toNat,by omega,by omega,h4⟩
  show CO N t x=_
  unfold CO
  rw[e,Option.bind_some,this]
 ·rw[←hk ⟨t.Owner.toNat,by omega,by omega,h4⟩];exact hv
theorem Mj {N:Nat}(hN:18446744073709551616<N) {b:AW}(hW:b.Owners.length≤64) {H:Int}{p o:Nat}(ho:o<b.Owners.length) {h:Int}(hh:0≤h):∀{ts:List FK}{x:List Int}{n:Int},PX b.Owners.length x→0≤n→n≤h→x.getD o 0=h-n→J0 o (OZ H p (Gp N b p ts) x)=N0 b p o h ts n-n
 |[],x,n,_,_,_,_=>by show(0:Int)=n-n;omega
 |t::ts,x,n,hx,h0,h1,he=>by
  show _=N0 b p o h ts (if HR b p t=true∧t.Owner=(o:Int) then min h (n+min t.Litres h) else n)-n
  cases hb:HR b p t with
  |false=>
   rw[if_neg (by simp)]
   have:Gp N b p (t::ts)=Gp N b p ts:=by unfold Gp;rw[List.filter_cons_of_neg (by simp [hb])]
   rw[this]
   exact Mj hN hW ho hh hx h0 h1 he
  |true=>
   have:Gp N b p (t::ts)=Lv N t::Gp N b p ts:=by unfold Gp;rw[List.filter_cons_of_pos hb,List.map_cons]
   obtain⟨i,hi,hiW,hL,hk,hv⟩:=UG hN hb hW hx
   have hsx:=hv.sub hx
   rw[this]
   have hs:OZ H p (Lv N t::Gp N b p ts) x=(if ((List.replicate b.Owners.length (0:Int)).set i (min t.Litres (x.getD i 0))).sum≤0 then [] else [(⟨H,(p:Int),(Lv N t).to_,(Lv N t).way,(List.replicate b.Owners.length 0).set i (min t.Litres (x.getD i 0))⟩:Ah)])++OZ H p (Gp N b p ts) (H4 x ((List.replicate b.Owners.length 0).set i (min t.Litres (x.getD i 0)))):=by
    simp only[OZ];rw[hk]
   have hg:=U9 (o:=o) hx.len hsx.2.2.len ho
   rw[Sd hiW] at hg
   have hg1:∀c:Prop,∀_:Decidable c,(c→(if i=o then min t.Litres (x.getD i 0) else 0)≤0)→J0 o (if c then [] else [(⟨H,(p:Int),(Lv N t).to_,(Lv N t).way,(List.replicate b.Owners.length 0).set i (min t.Litres (x.getD i 0))⟩:Ah)])=max 0 (if i=o then min t.Litres (x.getD i 0) else 0):=λc _ hc=>by
    have hge:0≤if i=o then min t.Litres (x.getD i 0) else 0:=by
     split
     ·rename_i e;subst e;omega
     ·exact Int.le_refl _
    by_cases e:c
    ·rw[if_pos e];have:=hc e;show(0:Int)=_;omega
    ·rw[if_neg e]
     show((List.replicate b.Owners.length (0:Int)).set i (min t.Litres (x.getD i 0))).getD o 0+0=_
     rw[Sd hiW];omega
   rw[hs,Jz,hg1 _ _ (λhc=>by rw[UI hiW] at hc;split<;>omega)]
   by_cases e:i=o
   ·subst e
    rw[if_pos rfl] at hg ⊢
    rw[if_pos ⟨rfl,hi⟩]
    rw[Mj hN hW ho hh (n:=min h (n+min t.Litres h)) hsx.1 (by omega) (by omega) (by rw[hg];omega)]
    omega
   ·rw[if_neg e] at hg ⊢
    rw[if_neg (by rw[hi];intro hc;omega)]
    rw[Mj hN hW ho hh hsx.1 h0 h1 (by rw[hg];omega)]
    omega
theorem NK {N:Nat}(hN:18446744073709551616<N) {b:AW}(hW:b.Owners.length≤64) {H:Int}{p:Nat}:∀{ts:List FK}{x:List Int},PX b.Owners.length x→∀m∈OZ H p (Gp N b p ts) x,∃(i:Nat) (c:Int),i<b.Owners.length∧0<c∧m.Part=(List.replicate b.Owners.length 0).set i c
 |[],x,_,m,hm=>by cases hm
 |t::ts,x,hx,m,hm=>by
  cases hb:HR b p t with
  |false=>
   have:Gp N b p (t::ts)=Gp N b p ts:=by unfold Gp;rw[List.filter_cons_of_neg (by simp [hb])]
   rw[this] at hm
   exact NK hN hW hx m hm
  |true=>
   have:Gp N b p (t::ts)=Lv N t::Gp N b p ts:=by unfold Gp;rw[List.filter_cons_of_pos hb,List.map_cons]
   obtain⟨i,hi,hiW,hL,hk,hv⟩:=UG hN hb hW hx
   have hsx:=hv.sub hx
   rw[this] at hm
   simp only[OZ] at hm
   rw[hk] at hm
   rcases List.mem_append.1 hm with hm|hm
   ·split at hm
    ·cases hm
    ·rename_i hc
     simp only[UI hiW] at hc
     rw[List.mem_singleton.1 hm]
     exact⟨i,_,hiW,by omega,rfl⟩
   ·exact NK hN hW hsx.1 m hm
end Go.Proofs.YtblcgjadhemlbaaGreat
namespace Go.Proofs.YtblcgjadhemlbaaGreat
open Go.RowKit
set_option linter.unusedVariables false
set_option linter.unusedSimpArgs false
def TU (p:Nat) (m:Ah):Bool:=decide (m.To=(p:Int))&&decide (m.Way= -4)
theorem Kz {α}(f:α→Bool) {l:List α}{k:Nat}(hk:k<l.length):(l.take (k+1)).filter f=(l.take k).filter f++if f l[k] then [l[k]] else []:=by
 rw[List.take_succ_eq_append_getElem hk,List.filter_append]
 congr 1
 cases h:f l[k]<;>simp [h]
theorem Sv (o:Nat) (m:Ah):J0 o [m]=m.Part.getD o 0:=by unfold J0;simp
theorem Ra (o:Nat) (m:Ah) (c:Bool):J0 o (if c then [m] else [])=if c then m.Part.getD o 0 else 0:=by
 cases c
 ·rfl
 ·exact Sv o m
theorem Ud {o:Nat}{l:List Ah}(h:∀m∈l,∀x∈m.Part,0≤x):0≤J0 o l:=by
 unfold J0
 refine Ip λx hx=>?_
 obtain⟨m,hm,rfl⟩:=List.mem_map.1 hx
 rw[List.getD_eq_getElem?_getD]
 cases e:m.Part[o]? with
 |none=>exact Int.le_refl 0
 |some y=>exact h m hm y (List.mem_of_getElem? e)
theorem KT {o:Nat}(f:Ah→Bool) {l:List Ah}(h:∀m∈l,∀x∈m.Part,0≤x) (k:Nat):0≤J0 o ((l.take k).filter f)∧J0 o ((l.take k).filter f)≤J0 o (l.filter f):=by
 have e:J0 o (l.filter f)=J0 o ((l.take k).filter f)+J0 o ((l.drop k).filter f):=by
  rw[←Jz,←List.filter_append,List.take_append_drop]
 have h1:=Ud (o:=o) (l:=(l.take k).filter f) λm hm=>h m (List.mem_of_mem_take (List.mem_filter.1 hm).1)
 have h2:=Ud (o:=o) (l:=(l.drop k).filter f) λm hm=>h m (List.mem_of_mem_drop (List.mem_filter.1 hm).1)
 omega
theorem RX {l:List Int}{o:Nat}(h:o<l.length):ix l (o:Int)=some (l.getD o 0):=by
 rw[BH h];simp [List.getD_eq_getElem?_getD,h]
theorem TG (a c:Bool):cond a c false=(a&&c):=by cases a<;>rfl
theorem cU {N:Nat}(hN:1000000<N) {r:Am×List Ah×List Int}(hl:r.2.1.length≤100000) {W o p:Nat}(ho:o<W) (hall:∀m∈r.2.1,m.Part.length=W∧∀x∈m.Part,0≤x) {h0:Int}(hh:0≤h0) (hR:h0+J0 o (r.2.1.filter (TU p))≤1152921504606846976) (hG:J0 o (r.2.1.filter (PY p))≤1152921504606846976) (kj:Int→Int→Option Bool):Bc N r (p:Int) (o:Int) kj N h0 0 0=kj (h0+J0 o (r.2.1.filter (TU p))) (J0 o (r.2.1.filter (PY p))):=by
 obtain⟨⟨a,g⟩,⟨i1,i2⟩,e⟩:=D8 r.2.1.length (λn i (s:Int×Int)=>Bc N r (p:Int) (o:Int) kj n s.1 s.2 i) (λs=>kj s.1 s.2) (λk s=>s.1=h0+J0 o ((r.2.1.take k).filter (TU p))∧s.2=J0 o ((r.2.1.take k).filter (PY p))) (λn k s hk=>by
  simp only[Bc];rw[E0 hk];rfl) (λn k s hi hk=>by
  obtain⟨a,g⟩:=s
  obtain⟨i1,i2⟩:=hi
  simp only at i1 i2
  have hnn:∀m∈r.2.1,∀x∈m.Part,0≤x:=λm hm=>(hall m hm).2
  have b1:=KT (o:=o) (TU p) hnn k
  have b2:=KT (o:=o) (TU p) hnn (k+1)
  have b3:=KT (o:=o) (PY p) hnn k
  have b4:=KT (o:=o) (PY p) hnn (k+1)
  rw[Kz _ hk,Jz,Ra] at b2 b4
  rw[Kz _ hk,Kz _ hk,Jz,Jz,Ra,Ra]
  have hpl:=(hall _ (List.getElem_mem hk)).1
  simp only[Bc,D4,DU]
  rw[Eu hk,cond_true,BL (by omega)]
  simp only[BH hk,Option.bind_some,FX,TG]
  generalize r.2.1[k]=m at b2 b4 hpl
  rw[show (decide (m.To=(p:Int))&&decide (m.Way= -4))=TU p m from rfl,show(decide (m.From=(p:Int))&&decide (m.Way= -3))=PY p m from rfl,RX (show o<m.Part.length by omega)]
  simp only[Option.bind_some]
  cases hr:TU p m<;>cases ht:PY p m<;>rw[hr] at b2<;>rw[ht] at b4<;>simp only[cond_true,cond_false,if_true,Bool.false_eq_true,if_false] at b2 b4 ⊢
  ·exact⟨(a,g),⟨by show a=_;omega,by show g=_;omega⟩,rfl⟩
  ·rw[Dm (n:=g+m.Part.getD o 0) (by omega) (by omega)]
   exact⟨(a,g+m.Part.getD o 0),⟨by show a=_;omega,by show g+_=_;omega⟩,rfl⟩
  ·rw[Dm (n:=a+m.Part.getD o 0) (by omega) (by omega)]
   exact⟨(a+m.Part.getD o 0,g),⟨by show a+_=_;omega,by show g=_;omega⟩,rfl⟩
  ·rw[Dm (n:=g+m.Part.getD o 0) (by omega) (by omega),Dm (n:=a+m.Part.getD o 0) (by omega) (by omega)]
   exact⟨(a+m.Part.getD o 0,g+m.Part.getD o 0),⟨by show a+_=_;omega,by show g+_=_;omega⟩,rfl⟩) N 0 (h0,0) ⟨by show h0=h0+0;omega,rfl⟩ (by omega) (Nat.zero_le _)
 simp only[List.take_length] at i1 i2
 subst i1 i2
 exact e
theorem OB {W o:Nat}{x y:List Int}(hx:x.length=W) (hy:y.length=W) (ho:o<W):(Fg x y).getD o 0=x.getD o 0+y.getD o 0:=by
 have h1:o<x.length:=by omega
 have h2:o<y.length:=by omega
 unfold Fg
 simp [List.getD_eq_getElem?_getD,List.getElem?_zipWith,h1,h2]
theorem PG {x:List Int}(h:∀y∈x,0≤y) (o:Nat):0≤x.getD o 0:=by
 rw[List.getD_eq_getElem?_getD]
 cases e:x[o]? with
 |none=>exact Int.le_refl 0
 |some y=>exact h y (List.mem_of_getElem? e)
theorem Rb {x:List Int}(h:∀y∈x,0≤y) (o:Nat):x.getD o 0≤x.sum:=by
 rw[List.getD_eq_getElem?_getD]
 cases e:x[o]? with
 |none=>exact Ip h
 |some y=>exact HN h y (List.mem_of_getElem? e)
theorem cV {N:Nat}(hN:1000000<N) {s:Am}{P W o p:Nat}(ho:o<W) (hq:s.Queue.length≤1000) (hqx:QX P W s.Queue) (hqs:HY s.Queue≤1125899906842624) {h0:Int}(hh:0≤h0) (hh1:h0≤1125899906842624) (kj:Int→Option Bool):Bd N s (p:Int) (o:Int) kj N h0 0=kj (h0+(Lq W s.Hour s.Queue p).getD o 0):=by
 obtain⟨a,⟨i1,i2,i3⟩,e⟩:=D8 s.Queue.length (λn i a=>Bd N s (p:Int) (o:Int) kj n a i) kj (λk a=>a=h0+(Lq W s.Hour (s.Queue.take k) p).getD o 0∧0≤a∧a≤h0+HY (s.Queue.take k)) (λn k s hk=>by
  simp only[Bd];rw[E0 hk];rfl) (λn k a hi hk=>by
  obtain⟨i1,i2,i3⟩:=hi
  have hx:=(hqx _ (List.getElem_mem hk)).1
  have hl:=hx.len
  have g1:=PG hx.nn o
  have g2:=Rb hx.nn o
  have h2:=Hs hqx (k+1)
  have hal:=(PR hqx (t:=s.Hour) (p:=p) k (by omega)).1
  rw[Mz hk]
  rw[Jc hk] at h2 ⊢
  simp only[Bd,EC]
  rw[Eu hk,cond_true,BL (by omega)]
  simp only[BH hk,Option.bind_some,FX,TG]
  generalize s.Queue[k]=m at hl g1 g2 h2 hx
  rw[RX (show o<m.Part.length by omega)]
  simp only[Option.bind_some]
  by_cases hc:m.At≤s.Hour∧m.To=(p:Int)
  ·rw[if_pos hc,decide_eq_true hc.1,decide_eq_true hc.2,Bool.and_self,cond_true,Dm (n:=a+m.Part.getD o 0) (by omega) (by omega)]
   exact⟨_,⟨by rw[OB hal hl ho];omega,by omega,by omega⟩,rfl⟩
  ·rw[if_neg hc]
   have:(decide (m.To=(p:Int))&&decide (m.At≤s.Hour))=false:=by
    rw[Bool.and_eq_false_iff]
    simp only[decide_eq_false_iff_not]
    by_cases h2:m.To=(p:Int)
    ·exact .inr λh3=>hc ⟨h3,h2⟩
    ·exact .inl h2
   rw[this,cond_false]
   have:=hx.sum0
   exact⟨a,⟨i1,i2,by omega⟩,rfl⟩) N 0 h0 ⟨by
    show h0=h0+(List.replicate W (0:Int)).getD o 0
    rw[List.getD_eq_getElem?_getD,List.getElem?_replicate,if_pos ho];simp,hh,by show h0≤h0+0;omega⟩ (by omega) (Nat.zero_le _)
 rw[List.take_length] at i1
 subst i1
 exact e
theorem XW {N:Nat}(hN:1000000<N) {b:AW}{in_:Cy}(ht:in_.Takes.length≤1000) {p o:Nat}(hp:p<b.Places.length) (ho:o<b.Owners.length) {h:Int}(h0:0≤h) (h1:h≤1125899906842624):GT N b in_ (p:Int) (o:Int) h=some (N0 b p o h in_.Takes 0):=by
 unfold GT
 obtain⟨a,i1,e⟩:=D8 in_.Takes.length (λn i a=>CF N b in_ (p:Int) (o:Int) h (De N) n a i) (De N) (λk a=>a=N0 b p o h (in_.Takes.take k) 0) (λn k s hk=>by
  simp only[CF];rw[E0 hk];rfl) (λn k a hi hk=>by
  have hb:=PQ (b:=b) (p:=p) (o:=o) h0 (ts:=in_.Takes.take k) (Int.le_refl 0) h0
  rw[←hi] at hb
  rw[Va hk,←hi]
  simp only[CF,ER]
  rw[Eu hk,cond_true,BL (by omega)]
  simp only[BH hk,BH hp,Option.bind_some]
  generalize in_.Takes[k]=x
  have hgp:b.Places.getD p default=b.Places[p]:=by simp [List.getD_eq_getElem?_getD,hp]
  cases hd:((((decide (x.Place≠(p:Int))||decide (x.Owner≠(o:Int)))||decide (x.Litres≤0))||decide (x.To< -1))||decide ((b.Places.length:Int)≤x.To)) with
  |true=>
   simp only[Bool.or_eq_true,decide_eq_true_eq] at hd
   rw[cond_true,if_neg (λhc=>by
    have hc1:=hc.1
    unfold HR at hc1
    simp only[Bool.and_eq_true,Bool.or_eq_true,decide_eq_true_eq] at hc1
    omega)]
   exact⟨_,rfl,rfl⟩
  |false=>
   simp only[Bool.or_eq_false_iff,decide_eq_false_iff_not] at hd
   obtain⟨⟨⟨⟨d1,d2⟩,d3⟩,d4⟩,d5⟩:=hd
   have d1:x.Place=(p:Int):=by omega
   have d2:x.Owner=(o:Int):=by omega
   rw[cond_false,Dm (n:=a+min x.Litres h) (by omega) (by omega)]
   by_cases hto:x.To= -1
   ·rw[decide_eq_true hto,cond_true,Option.bind_some,cond_true,if_pos ⟨by unfold HR;simp [d1,d2,hto];omega,d2⟩]
    exact⟨_,rfl,rfl⟩
   ·obtain⟨j,hj,hjl⟩:=cD (l:=b.Places) (i:=x.To) (by omega) (by omega)
    have hgj:b.Places.getD x.To.toNat default=b.Places[j]:=by
     rw[hj,Int.toNat_natCast];simp [List.getD_eq_getElem?_getD,hjl]
    rw[decide_eq_false hto,cond_false,hj,BH hjl,Option.bind_some,Option.bind_some]
    by_cases hof:(b.Places[j]).Office=(b.Places[p]).Office
    ·rw[decide_eq_true hof,cond_true,if_pos ⟨by unfold HR;rw[hgj,hgp,hj];simp [d1,d2,hof];omega,d2⟩]
     exact⟨_,rfl,rfl⟩
    ·rw[decide_eq_false hof,cond_false,if_neg (λhc=>by
      have hc1:=hc.1
      unfold HR at hc1
      rw[hgj,hgp] at hc1
      simp only[Bool.and_eq_true,Bool.or_eq_true,decide_eq_true_eq] at hc1
      rcases hc1.2 with h|h
      ·exact hto h
      ·exact hof h.2)]
     exact⟨_,rfl,rfl⟩) N 0 0 rfl (by omega) (Nat.zero_le _)
 rw[List.take_length] at i1
 subst i1
 exact e
theorem WK {H:Int}{W o p:Nat}(ho:o<W):∀{l:List Int}{i:Nat},(∀n∈l,0≤n)→i≤p→∀n,l[p-i]? =some n→J0 o ((RH H W i l).filter (TU p))=(v1 W n).getD o 0
 |[],i,_,_,n,h=>by simp at h
 |a::l,i,hl,hip,n,h=>by
  have ha:=hl a (.head _)
  rw[RH,List.filter_append,Jz]
  by_cases e:i=p
  ·subst e
   rw[Nat.sub_self] at h
   have h:a=n:=by simpa using h
   subst h
   have h2:(RH H W (i+1) l).filter (TU i)=[]:=List.filter_eq_nil_iff.2 λm hm=>by
    have:=WJ hm
    unfold TU
    simp;omega
   rw[h2]
   by_cases h0:0<a
   ·rw[if_pos h0]
    have:[(⟨H, -1,(i:Int), -4,v1 W a⟩:Ah)].filter (TU i)=[(⟨H, -1,(i:Int), -4,v1 W a⟩:Ah)]:=by simp [TU]
    rw[this,Sv]
    show(v1 W a).getD o 0+(0:Int)=(v1 W a).getD o 0
    omega
   ·rw[if_neg h0,show a=0 by omega,Q4]
    show(0:Int)+0=_
    rw[List.getD_eq_getElem?_getD,List.getElem?_replicate,if_pos ho];rfl
  ·have h1:(if 0<a then [(⟨H, -1,(i:Int), -4,v1 W a⟩:Ah)] else []).filter (TU p)=[]:=List.filter_eq_nil_iff.2 λm hm=>by
    split at hm
    ·rw[List.mem_singleton.1 hm]
     unfold TU
     simp;omega
    ·cases hm
   rw[h1,WK ho (λn hn=>hl n (.tail _ hn)) (by omega) n (by
    rw[show p-i=(p-(i+1))+1 by omega,List.getElem?_cons_succ] at h;exact h)]
   show(0:Int)+_=_
   omega
theorem UJ:∀{W i:Nat}{c:Int},i<W→0<c→(((List.replicate W (0:Int)).set i c).filter (λx=>decide (0<x))).length=1
 |W+1,0,c,_,hc=>by
  rw[List.replicate_succ,List.set_cons_zero,List.filter_cons_of_pos (by simpa using hc)]
  have:(List.replicate W (0:Int)).filter (λx=>decide (0<x))=[]:=List.filter_eq_nil_iff.2 λx hx=>by rw[(List.mem_replicate.1 hx).2];decide
  rw[this];rfl
 |W+1,i+1,c,hi,hc=>by
  rw[List.replicate_succ,List.set_cons_succ,List.filter_cons_of_neg (by decide)]
  exact UJ (by omega) hc
theorem Zt {N:Nat}(hN:1000000<N) {r:Am×List Ah×List Int}{k:Nat}(hk:k<r.2.1.length) (hl:(r.2.1[k]).Part.length≤1000) (kj:Int→Option Bool):Bi N r (k:Int) kj N 0 0=kj ((((r.2.1[k]).Part.filter (λx=>decide (0<x))).length:Nat):Int):=by
 obtain⟨a,i1,e⟩:=D8 (r.2.1[k]).Part.length (λn i a=>Bi N r (k:Int) kj n a i) kj (λj a=>a=(((((r.2.1[k]).Part.take j).filter (λx=>decide (0<x))).length:Nat):Int)) (λn j s hj=>by
  simp only[Bi];rw[BH hk,Option.bind_some,Option.bind_some,E0 hj];rfl) (λn j a hi hj=>by
  have hb:(((r.2.1[k]).Part.take j).filter (λx=>decide (0<x))).length≤j:=Nat.le_trans (List.length_filter_le _ _) (by rw[List.length_take];omega)
  rw[Kz _ hj,List.length_append]
  simp only[Bi,D3]
  rw[BH hk]
  simp only[Option.bind_some]
  rw[Eu hj,cond_true,BH hj,Option.bind_some,BL (by omega)]
  by_cases h:0<(r.2.1[k]).Part[j]
  ·rw[decide_eq_true h,cond_true,Dm (n:=a+1) (by omega) (by omega)]
   exact⟨_,by rw[hi];simp,rfl⟩
  ·rw[decide_eq_false h,cond_false]
   exact⟨_,by rw[hi];simp,rfl⟩) N 0 0 rfl (by omega) (Nat.zero_le _)
 rw[List.take_length] at i1
 subst i1
 exact e
end Go.Proofs.YtblcgjadhemlbaaGreat
