import Derived.Test.YtblcgjadhemlbaaGreatQPurePl
namespace Go.Proofs.YtblcgjadhemlbaaGreat
open Go.RowKit
set_option linter.unusedVariables false
set_option linter.unusedSimpArgs false
theorem M1 {α}{l:List α}{k:Nat}(h:k<l.length) (x:α):(upd l (k:Int) x)[k]? =some x:=by
 simp [upd,h]
theorem P8 {α}{l:List α}{k j:Nat}(h:k≠j) (x:α):(upd l (k:Int) x)[j]? =l[j]? :=by
 simp [upd,List.getElem?_set_ne h]
structure ShI (t S:Int) (w:List Int) (k:Nat) (s:Int×List Int×List Int×List Int):Prop where
 l1:s.2.1.length=w.length
 l2:s.2.2.1.length=w.length
 l3:s.2.2.2.length=w.length
 or_:∀i,i<k→s.2.1[i]? =some (i:Int)
 ex:∃R,s.1*S=t*(S-(w.take k).sum)+R∧0≤R∧R≤k*S
 ex0:s.1≤t
theorem Ud {N:Nat}(hN:1000000<N) (l:List Int) (hl:l.length≤1000) {n:Nat}(hx:∀x∈l,0≤x∧x<n) (ps:List Int) (hp:ps.length=n):∃r,EH N l (FY N) N 0 ps=some (r,true)∧r.length=n:=by
 obtain⟨s,i1,e⟩:=E5 l.length (λm i s=>EH N l (FY N) m i s) (FY N) (λ_ s=>s.length=n) (λm k s hk=>by
  simp only[EH];rw[E7 hk];rfl) (λm k s hi hk=>by
  simp only[EH]
  obtain⟨h1,h2⟩:=hx _ (List.getElem_mem hk)
  obtain⟨y,hy⟩:=Df.ix (l:=s) h1 (by omega)
  rw[E6 hk,cond_true,BQ hk]
  simp only[Option.bind_some,hy]
  rw[BH (by omega)]
  exact⟨_,by rw[K0];exact hi,rfl⟩) N 0 ps hp (by omega) (Nat.zero_le _)
 exact⟨s,e,i1⟩
theorem Uf {N:Nat}(hN:1000000<N) {n:Nat}(h1:1≤n) (h64:n≤64) {ex:Int}(he:0≤ex∧ex≤n) {lo lr ps:List Int}(hlo:lo.length=n) (hlr:lr.length=n) (hps:ps.length=n) (hor:∀x∈lo,0≤x∧x<n):∃r,DR N ex lo lr ps=some (r,true)∧r.length=n:=by
 have hp:=K6 (RJ lr) lo
 have hs:Om lo lr=some (Oz (RJ lr) lo):=by
  unfold Om
  rw[if_pos ⟨by omega,by omega,by omega,List.all_eq_true.2 λx hx=>by
   have:=hor x hx
   simp only[Bool.and_eq_true,decide_eq_true_eq]
   omega⟩]
 have hlen:(Oz (RJ lr) lo).length=n:=by rw[hp.length_eq];exact hlo
 unfold DR cN
 rw[hs,Option.bind_some,if_pos ⟨he.1,by omega,by omega⟩,Option.bind_some]
 exact Ud hN _ (by rw[List.length_take];omega) (λx hx=>hor x (hp.mem_iff.1 (List.mem_of_mem_take hx))) ps hps
theorem Ue {N:Nat}(hN:18446744073709551616<N) {w:List Int}(h1:1≤w.length) (h64:w.length≤64) (hw:∀x∈w,0≤x) {t:Int}(hS:w.sum≤1125899906842624) (hS0:0<w.sum) (ht:0≤t∧t≤w.sum) (a b c:List Int) (ha:a.length=w.length) (hb:b.length=w.length) (hc:c.length=w.length):
  ∃r,Dk N t w w.sum (DR N) N t 0 a b c=some (r,true)∧r.length=w.length:=by
 obtain⟨⟨ex,lo,lr,ps⟩,⟨q1,q2,q3,q4,⟨R,q5,q6,q7⟩,q8⟩,e⟩:=E5 w.length (λn i (s:Int×List Int×List Int×List Int)=>Dk N t w w.sum (DR N) n s.1 i s.2.1 s.2.2.1 s.2.2.2) (λs=>DR N s.1 s.2.1 s.2.2.1 s.2.2.2) (λk s=>ShI t w.sum w k s) (λn k s hk=>by
  simp only[Dk];rw[E7 hk];rfl) (λn k s hi hk=>by
  obtain⟨ex,lo,lr,ps⟩:=s
  obtain⟨q1,q2,q3,q4,⟨R,q5,q6,q7⟩,q8⟩:=hi
  simp only at q1 q2 q3 q4 q5 q6 q7 q8
  have w0:=hw _ (List.getElem_mem hk)
  have wS:w[k]≤w.sum:=by
   have h2:=(Lf hw (k+1)).2
   have h3:=(Lf hw k).1
   rw[M4 hk] at h2
   omega
  have hq:=Z7 (t:=t) (n:=w[k]) (d:=w.sum) (by omega) wS ht.1
  have hq0:=XZ (t:=t) (n:=w[k]) (d:=w.sum) (by omega) w0 ht.1
  have hr0:=Int.emod_nonneg (t*w[k]) (show w.sum≠0 by omega)
  have hr1:=Int.emod_lt_of_pos (t*w[k]) hS0
  have hdm:=Int.mul_ediv_add_emod (t*w[k]) w.sum
  simp only[Dk]
  rw[E6 hk,cond_true,BQ hk,Option.bind_some,M8 hN,YE ⟨ht.1,by omega⟩ ⟨w0,by omega⟩ ⟨by omega,hS⟩ (by omega)]
  simp only[Option.bind_some,BQ (show k<lo.length by omega),BQ (show k<lr.length by omega),BQ (show k<ps.length by omega)]
  rw[BH (by omega)]
  have e2:(w.take (k+1)).sum=(w.take k).sum+w[k]:=M4 hk
  have hx0:0≤ex:=by
   have h2:=(Lf hw k).2
   have h3:0≤t*(w.sum-(w.take k).sum):=Int.mul_nonneg ht.1 (by omega)
   by_cases hneg:ex<0
   ·have:ex*w.sum<0:=Int.mul_neg_of_neg_of_pos hneg hS0
    omega
   ·omega
  rw[GF (n:=ex-t*w[k]/w.sum) (by omega) (by omega)]
  refine⟨⟨_,_,_,_⟩,⟨by show(upd lo _ _).length=_;rw[K0];exact q1,by show(upd lr _ _).length=_;rw[K0];exact q2,by show(upd ps _ _).length=_;rw[K0];exact q3,λi hi=>?_,⟨R+t*w[k]%w.sum,?_,by omega,?_⟩,by show ex-_≤t;omega⟩,rfl⟩
  ·show(upd lo (k:Int) (k:Int))[i]? =_
   by_cases hik:k=i
   ·subst hik;exact M1 (by omega) _
   ·rw[P8 hik];exact q4 i (by omega)
  ·show(ex-t*w[k]/w.sum)*w.sum=_
   rw[e2,Int.sub_mul,q5,Int.mul_comm (t*w[k]/w.sum),show t*(w.sum-((w.take k).sum+w[k]))=t*(w.sum-(w.take k).sum)-t*w[k] by rw[←Int.mul_sub];congr 1;omega]
   omega
  ·have:((k+1:Nat):Int)*w.sum=k*w.sum+w.sum:=by rw[Int.natCast_succ,Int.add_mul,Int.one_mul]
   omega) N 0 (t,a,b,c) ⟨ha,hb,hc,λi hi=>by omega,⟨0,by simp,by omega,by simp⟩,Int.le_refl _⟩ (by omega) (Nat.zero_le _)
 simp only at q1 q2 q3 q4 q5 q6 q7 q8
 rw[show Dk N t w w.sum (DR N) N t 0 a b c=DR N ex lo lr ps from e]
 rw[List.take_length,Int.sub_self,Int.mul_zero,Int.zero_add] at q5
 have x0:0≤ex:=by
  by_cases hneg:ex<0
  ·have:ex*w.sum<0:=Int.mul_neg_of_neg_of_pos hneg hS0
   omega
  ·omega
 have x1:ex≤w.length:=Int.le_of_mul_le_mul_right (by rw[q5];exact q7) hS0
 refine Uf (by omega) h1 h64 ⟨x0,x1⟩ q1 q2 q3 λx hx=>?_
 obtain⟨i,hi⟩:=List.mem_iff_getElem?.1 hx
 have hil:=(List.getElem?_eq_some_iff.1 hi).1
 have h2:=q4 i (by omega)
 rw[hi] at h2
 cases h2
 omega
theorem Tj {N:Nat}(hN:18446744073709551616<N) (t:Int) (w:List Int):∃r,IX N t w=some r∧(r.2=true→r.1.length=w.length):=by
 unfold IX
 cases hl:decide (64<(w.length:Int)) with
 |true=>exact⟨_,rfl,λh=>by cases h⟩
 |false=>
  have h64:=of_decide_eq_false hl
  rw[cond_false]
  rcases KR w.length (λn i s=>EI N w (EJ N t w) n s i) (EJ N t w) (some (([]:List Int),false)) (λk s=>(∀x∈w.take k,0≤x)∧s=(w.take k).sum∧s≤1125899906842624∧0≤s) (λn k s hk=>by
   simp only[EI];rw[E7 hk];rfl) (λn k s hi hk=>by
   obtain⟨i1,i2,i3,i4⟩:=hi
   simp only[EI]
   rw[E6 hk,cond_true,BQ hk,Option.bind_some,GF (n:=1125899906842624-s) (by omega) (by omega)]
   cases hb:(decide (w[k]<0)||decide (1125899906842624-s<w[k]))
   ·simp only[Bool.or_eq_false_iff,decide_eq_false_iff_not] at hb
    rw[cond_false,BH (by omega),GF (n:=s+w[k]) (by omega) (by omega)]
    exact .inr ⟨_,⟨JP hk i1 (by omega),by rw[M4 hk,i2],by omega,by omega⟩,rfl⟩
   ·exact .inl rfl) N 0 0 ⟨by simp,rfl,by decide,by decide⟩ (by omega) (Nat.zero_le _) with e|⟨s,⟨i1,i2,i3,i4⟩,e⟩
  ·exact⟨_,e,λh=>by cases h⟩
  ·rw[show EI N w (EJ N t w) N 0 0=EJ N t w s from e]
   rw[List.take_length] at i1 i2
   subst i2
   unfold EJ
   cases hc:(decide (t<0)||decide (w.sum<t)) with
   |true=>exact⟨_,rfl,λh=>by cases h⟩
   |false=>
    simp only[Bool.or_eq_false_iff,decide_eq_false_iff_not] at hc
    rw[cond_false,JJ (by omega) _ (by decide)]
    cases hz:decide (w.sum=0) with
    |true=>exact⟨_,rfl,λ_=>Ht _ _⟩
    |false=>
     have hz:=of_decide_eq_false hz
     rw[cond_false,JJ (by omega) _ (by decide),JJ (by omega) _ (by decide)]
     have h1:1≤w.length:=by
      cases w with
      |nil=>exact absurd rfl hz
      |cons _ _=>simp
     obtain⟨r,e,hr⟩:=Ue hN h1 (by omega) i1 i3 (by omega) (t:=t) ⟨by omega,by omega⟩ _ _ _ (Ht w.length 0) (Ht w.length 0) (Ht w.length 0)
     exact⟨_,e,λ_=>hr⟩
theorem US {N:Nat}(hN:18446744073709551616<N) {p:List Int}(hp:p.length≤1000) (n:Int):∃r,Jd N p n=some r∧r.1.length=p.length∧r.2.length=p.length:=by
 have j0:∀l:List Int,l.length=p.length→∃r,D5 N p l=some r∧r.1.length=p.length∧r.2.length=p.length:=λl hl=>by
  obtain⟨r,e,hr⟩:=Nx (N:=N) (by omega) hp (t:=l) (by omega)
  unfold D5
  rw[e]
  exact⟨_,rfl,hl,hr⟩
 unfold Jd
 rw[JJ hp _ (by decide)]
 obtain⟨v,hv,_⟩:=Pp (N:=N) (by omega) hp
 obtain⟨s,hs⟩:=IR (N:=N) (by omega) (p:=p) (by omega)
 obtain⟨r,hr,_⟩:=Tj hN (min n s) p
 rw[hv]
 simp only[Option.bind_some,T5,hs,hr]
 have k:∀b:Bool,∃r',cond b (cond r.2 (GT N (D5 N p) (Lw (List.replicate ((p.length:Int)).toNat (0:Int)) r.1)) (GT N (D5 N p) (List.replicate ((p.length:Int)).toNat (0:Int)))) (D5 N p (List.replicate ((p.length:Int)).toNat (0:Int)))=some r'∧r'.1.length=p.length∧r'.2.length=p.length:=λb=>by
  unfold GT
  cases b
  ·exact j0 _ (Ht _ _)
  ·cases r.2
   ·exact j0 _ (Ht _ _)
   ·exact j0 _ (by rw[Qk,Ht])
 cases (decide (0<n)&&decide ((p.length:Int)≤64))
 ·exact k false
 ·exact k v
end Go.Proofs.YtblcgjadhemlbaaGreat
namespace Go.Proofs.YtblcgjadhemlbaaGreat
open Go.RowKit
set_option linter.unusedVariables false
set_option linter.unusedSimpArgs false
theorem Lx (N:Nat) (n lo hi:Int):GJ N n lo hi=some (if n<lo then lo else if hi<n then hi else n):=by
 unfold GJ
 by_cases h1:n<lo
 ·rw[decide_eq_true h1,if_pos h1];rfl
 ·rw[decide_eq_false h1,if_neg h1]
  by_cases h2:hi<n
  ·rw[decide_eq_true h2,if_pos h2];rfl
  ·rw[decide_eq_false h2,if_neg h2];rfl
theorem Kp (N:Nat) (i n:Int):FC N i n=some (decide (0≤i)&&decide (i<n)):=rfl
theorem VD (N:Nat) (l:Au) (g:Ak) (k:Int):∃g',Gz N l g k=some g'∧g'.Pos=g.Pos∧g'.Target=g.Target:=by
 have j1:∀c:Bool,∃g',Gj N l g k (FP N g) c=some g'∧g'.Pos=g.Pos∧g'.Target=g.Target:=λc=>by
  unfold Gj
  cases c
  ·exact⟨_,rfl,rfl,rfl⟩
  ·cases decide (l.Kind=5)<;>exact⟨_,rfl,rfl,rfl⟩
 unfold Gz
 cases decide (k=0)
 ·cases decide (k=1)
  ·cases decide (k=2)
   ·exact j1 (decide (k=3))
   ·exact j1 true
  ·exact⟨_,rfl,rfl,rfl⟩
 ·exact⟨_,rfl,rfl,rfl⟩
theorem Yw (N:Nat) (l:Au) (g:Ak) (t:Int):∃g',H5 N l g t=some g'∧g'.Pos=g.Pos∧g'.Stuck=g.Stuck∧(0≤l.Positions→0≤g.Target→g.Target≤l.Positions→0≤g'.Target∧g'.Target≤l.Positions):=by
 unfold H5
 cases decide (l.Positions≠0)
 ·exact⟨_,rfl,rfl,rfl,λ_ h1 h2=>⟨h1,h2⟩⟩
 ·rw[cond_true,Lx,Option.bind_some]
  refine⟨_,rfl,rfl,rfl,λh0 h1 h2=>?_⟩
  show 0≤(if t<0 then 0 else if l.Positions<t then l.Positions else t)∧_≤l.Positions
  split
  ·exact⟨Int.le_refl _,h0⟩
  ·split
   ·exact⟨h0,Int.le_refl _⟩
   ·exact⟨by omega,show t≤_ by omega⟩
theorem WU (N:Nat) (l:Au) (g:Ak):Df (Gy N l g):=by
 unfold Gy
 cases g.Stuck
 ·obtain⟨a,ha⟩:=Of N g.Target g.Pos
  obtain⟨b,hb⟩:=Of N 0 l.Speed
  rw[cond_false,ha,Option.bind_some,hb,Option.bind_some,Lx,Option.bind_some]
  obtain⟨c,hc⟩:=PD N g.Pos (if a<b then b else if l.Speed<a then l.Speed else a)
  rw[hc]
  exact⟨_,rfl⟩
 ·exact⟨_,rfl⟩
theorem Ti (N:Nat) (l:Au) (g:Ak) (v:Int):∃g',GG N l g v=some g'∧g'.Pos=g.Pos∧(l.Kind≠3→g'=g):=by
 unfold GG
 by_cases h3:l.Kind=3
 ·rw[show decide (l.Kind≠3)=false by simp [h3],cond_false]
  cases decide (l.Prime≤v)
  ·cases decide (v≤l.Break)<;>exact⟨_,rfl,rfl,λh=>absurd h3 h⟩
  ·exact⟨_,rfl,rfl,λh=>absurd h3 h⟩
 ·rw[show decide (l.Kind≠3)=true by simp [h3],cond_true]
  exact⟨g,rfl,rfl,λ_=>rfl⟩
def gF (N:Nat) (l:Au) (g:Ak) (k:Int):Ak:=(Gz N l g k).getD g
def gA (N:Nat) (l:Au) (g:Ak) (k:Int):Ak:=(H5 N l g k).getD g
def gM (N:Nat) (l:Au) (g:Ak):Ak:=(Gy N l g).getD g
def gS (N:Nat) (l:Au) (g:Ak) (v:Int):Ak:=(GG N l g v).getD g
theorem U8 (N:Nat) (l:Au) (g:Ak) (k:Int):Gz N l g k=some (gF N l g k)∧(gF N l g k).Pos=g.Pos∧(gF N l g k).Target=g.Target:=by
 obtain⟨g',e,h⟩:=VD N l g k
 unfold gF;rw[e];exact⟨rfl,h⟩
theorem U9 (N:Nat) (l:Au) (g:Ak) (k:Int):H5 N l g k=some (gA N l g k)∧(gA N l g k).Pos=g.Pos∧(gA N l g k).Stuck=g.Stuck∧(0≤l.Positions→0≤g.Target→g.Target≤l.Positions→0≤(gA N l g k).Target∧(gA N l g k).Target≤l.Positions):=by
 obtain⟨g',e,h⟩:=Yw N l g k
 unfold gA;rw[e];exact⟨rfl,h⟩
theorem U7 (N:Nat) (l:Au) (g:Ak):Gy N l g=some (gM N l g):=by
 obtain⟨g',e⟩:=WU N l g
 unfold gM;rw[e];rfl
theorem TB (N:Nat) (l:Au) (g:Ak) (v:Int):GG N l g v=some (gS N l g v)∧(gS N l g v).Pos=g.Pos∧(l.Kind≠3→gS N l g v=g):=by
 obtain⟨g',e,h⟩:=Ti N l g v
 unfold gS;rw[e];exact⟨rfl,h⟩
theorem YY (N:Nat) (l:Au) (g:Ak) (hP:l.Positions≤64) (hs:0≤l.Speed∧l.Speed≤l.Positions) (hp:0≤g.Pos∧g.Pos≤l.Positions) (ht:0≤g.Target∧g.Target≤l.Positions):(0≤(gM N l g).Pos∧(gM N l g).Pos≤l.Positions)∧(gM N l g).Pos-g.Pos≤l.Speed∧ -l.Speed≤(gM N l g).Pos-g.Pos∧(g.Stuck=true→gM N l g=g):=by
 have e:=U7 N l g
 unfold Gy at e
 cases hst:g.Stuck with
 |true=>
  rw[hst,cond_true] at e
  have e:=Option.some.inj e
  rw[←e]
  exact⟨hp,by omega,by omega,λ_=>rfl⟩
 |false=>
  rw[hst,cond_false,UV N (by omega) (by omega) (by omega) (by omega),Option.bind_some,UV N (by omega) (by omega) (by omega) (by omega),Option.bind_some,Lx,Option.bind_some] at e
  have hc:∃c,(if g.Target-g.Pos<0-l.Speed then 0-l.Speed else if l.Speed<g.Target-g.Pos then l.Speed else g.Target-g.Pos)=c∧ -l.Speed≤c∧c≤l.Speed∧0≤g.Pos+c∧g.Pos+c≤l.Positions:=by
   refine⟨_,rfl,?_⟩
   split
   ·omega
   ·split<;>omega
  obtain⟨c,hc,c1,c2,c3,c4⟩:=hc
  rw[hc,Yx N (by omega) (by omega) (by omega) (by omega),Option.bind_some] at e
  have e:=Option.some.inj e
  rw[←e]
  exact⟨⟨c3,c4⟩,by show g.Pos+c-g.Pos≤_;omega,by show _≤g.Pos+c-g.Pos;omega,λh=>by cases h⟩
def Nz (N:Nat) (l:Au) (k:Nat) (fs:List IB) (g:Ak):Ak:=fs.foldl (λg f=>if f.Link=(k:Int) then gF N l g f.Kind else g) g
def stA (N:Nat) (l:Au) (k:Nat) (cs:List MF) (g:Ak):Ak:=cs.foldl (λg c=>if c.Link=(k:Int) then gA N l g c.Target else g) g
theorem Lg {N:Nat}{l:Au}{k:Nat}{fs:List IB}{g:Ak}{i:Nat}(h:i<fs.length):Nz N l k (fs.take (i+1)) g=if fs[i].Link=(k:Int) then gF N l (Nz N l k (fs.take i) g) fs[i].Kind else Nz N l k (fs.take i) g:=by
 unfold Nz;rw[List.take_succ_eq_append_getElem h,List.foldl_append];rfl
theorem Lh {N:Nat}{l:Au}{k:Nat}{cs:List MF}{g:Ak}{i:Nat}(h:i<cs.length):stA N l k (cs.take (i+1)) g=if cs[i].Link=(k:Int) then gA N l (stA N l k (cs.take i) g) cs[i].Target else stA N l k (cs.take i) g:=by
 unfold stA;rw[List.take_succ_eq_append_getElem h,List.foldl_append];rfl
theorem Sk (N:Nat) (l:Au) (k:Nat):∀(fs:List IB) (g:Ak),(Nz N l k fs g).Pos=g.Pos∧(Nz N l k fs g).Target=g.Target
 |[],g=>⟨rfl,rfl⟩
 |f::fs,g=>by
  show(Nz N l k fs _).Pos=_∧(Nz N l k fs _).Target=_
  obtain⟨h1,h2⟩:=Sk N l k fs (if f.Link=(k:Int) then gF N l g f.Kind else g)
  rw[h1,h2]
  split
  ·exact(U8 N l g f.Kind).2
  ·exact⟨rfl,rfl⟩
theorem Sm (N:Nat) (l:Au) (k:Nat) (hP:0≤l.Positions):∀(cs:List MF) (g:Ak),0≤g.Target∧g.Target≤l.Positions→(stA N l k cs g).Pos=g.Pos∧(stA N l k cs g).Stuck=g.Stuck∧0≤(stA N l k cs g).Target∧(stA N l k cs g).Target≤l.Positions
 |[],g,h=>⟨rfl,rfl,h⟩
 |c::cs,g,h=>by
  show(stA N l k cs _).Pos=_∧(stA N l k cs _).Stuck=_∧0≤(stA N l k cs _).Target∧(stA N l k cs _).Target≤_
  obtain⟨_,a2,a3,a4⟩:=U9 N l g c.Target
  have hq:0≤(if c.Link=(k:Int) then gA N l g c.Target else g).Target∧(if c.Link=(k:Int) then gA N l g c.Target else g).Target≤l.Positions:=by
   split
   ·exact a4 hP h.1 h.2
   ·exact h
  obtain⟨h1,h2,h3⟩:=Sm N l k hP cs _ hq
  refine⟨h1.trans ?_,h2.trans ?_,h3⟩
  ·split
   ·exact a2
   ·rfl
  ·split
   ·exact a3
   ·rfl
def P4 (L:Nat) (gs:List Ak) (g:Nat→Ak):Prop:=gs.length=L∧∀k,k<L→gs[k]? =some (g k)
theorem P4.ix {L:Nat}{gs:List Ak}{g:Nat→Ak}(h:P4 L gs g) {k:Nat}(hk:k<L):ix gs (k:Int)=some (g k):=by
 have:=h.2 k hk
 simp [Go.Proofs.YtblcgjadhemlbaaGreat.ix,this]
theorem P4.upd {L:Nat}{gs:List Ak}{g g':Nat→Ak}(h:P4 L gs g) {j:Nat}(hj:j<L) (x:Ak) (h1:g' j=x) (h2:∀k,k<L→k≠j→g' k=g k):P4 L (upd gs (j:Int) x) g':=
 ⟨by rw[K0];exact h.1,λk hk=>by
  by_cases e:j=k
  ·subst e;rw[M1 (by rw[h.1];exact hj),h1]
  ·rw[P8 e,h.2 k hk,h2 k hk λh=>e h.symm]⟩
theorem P4.congr {L:Nat}{gs:List Ak}{g g':Nat→Ak}(h:P4 L gs g) (e:∀k,k<L→g' k=g k):P4 L gs g':=⟨h.1,λk hk=>by rw[h.2 k hk,e k hk]⟩
def PP (b:AZ) (k:Nat):Au:=b.Links.getD k default
theorem Nn {b:AZ}{k:Nat}(h:k<b.Links.length):PP b k=b.Links[k]:=by unfold PP;simp [List.getD_eq_getElem?_getD,h]
theorem Z5 {α}{l:List α}{i:Int}(h0:0≤i) (h1:i<l.length):∃n:Nat,i=(n:Int)∧n<l.length:=⟨i.toNat,by omega,by omega⟩
theorem O0 {i:Int}{n:Nat}:(decide (0≤i)&&decide (i<(n:Int)))=true↔0≤i∧i<n:=by simp
theorem Ur {N:Nat}(hN:1000000<N) {w:Ai}{b:AZ}(hwb:w.b=b) (hL:b.Links.length≤1000) (hf:w.in_.Faults.length≤1000) (hc:w.in_.Cmds.length≤1000) {g0:Nat→Ak}(h0:P4 b.Links.length w.s.Gates g0):
  ∃gs,Gt N w=some gs∧P4 b.Links.length gs (λk=>gM N (PP b k) (stA N (PP b k) k w.in_.Cmds (Nz N (PP b k) k w.in_.Faults (g0 k)))):=by
 subst hwb
 unfold Gt
 obtain⟨s1,i1,e1⟩:=E5 w.in_.Faults.length (λn i s=>CO N w (Cd N w) n i s) (Cd N w) (λi s=>P4 w.b.Links.length s (λk=>Nz N (PP w.b k) k (w.in_.Faults.take i) (g0 k))) (λn k s hk=>by
  simp only[CO];rw[E7 hk];rfl) (λn i s hi hk=>by
  simp only[CO,Fi]
  rw[E6 hk,cond_true,BQ hk,Option.bind_some,Kp,Option.bind_some,BH (by omega)]
  cases hr:(decide (0≤w.in_.Faults[i].Link)&&decide (w.in_.Faults[i].Link<(w.b.Links.length:Int)))
  ·refine⟨s,hi.congr λk hkl=>?_,rfl⟩
   rw[Lg hk,if_neg]
   intro e
   rw[e] at hr
   simp [hkl] at hr
  ·obtain⟨r1,r2⟩:=O0.1 hr
   obtain⟨j,hj,hjl⟩:=Z5 r1 r2
   rw[cond_true,hj,BQ hjl]
   simp only[hi.ix hjl,Option.bind_some]
   rw[(U8 N _ _ _).1,Option.bind_some]
   refine⟨_,hi.upd hjl _ ?_ λk hkl hne=>?_,rfl⟩
   ·rw[Lg hk,if_pos hj,Nn hjl]
   ·rw[Lg hk,if_neg (by rw[hj];omega)]) N 0 w.s.Gates h0 (by omega) (Nat.zero_le _)
 rw[show CO N w (Cd N w) N 0 w.s.Gates=Cd N w s1 from e1]
 rw[List.take_length] at i1
 unfold Cd
 obtain⟨s2,i2,e2⟩:=E5 w.in_.Cmds.length (λn i s=>CN N w (Cc N w) n i s) (Cc N w) (λi s=>P4 w.b.Links.length s (λk=>stA N (PP w.b k) k (w.in_.Cmds.take i) (Nz N (PP w.b k) k w.in_.Faults (g0 k)))) (λn k s hk=>by
  simp only[CN];rw[E7 hk];rfl) (λn i s hi hk=>by
  simp only[CN,Fh]
  rw[E6 hk,cond_true,BQ hk,Option.bind_some,Kp,Option.bind_some,BH (by omega)]
  cases hr:(decide (0≤w.in_.Cmds[i].Link)&&decide (w.in_.Cmds[i].Link<(w.b.Links.length:Int)))
  ·refine⟨s,hi.congr λk hkl=>?_,rfl⟩
   rw[Lh hk,if_neg]
   intro e
   rw[e] at hr
   simp [hkl] at hr
  ·obtain⟨r1,r2⟩:=O0.1 hr
   obtain⟨j,hj,hjl⟩:=Z5 r1 r2
   rw[cond_true,hj,BQ hjl]
   simp only[hi.ix hjl,Option.bind_some]
   rw[(U9 N _ _ _).1,Option.bind_some]
   refine⟨_,hi.upd hjl _ ?_ λk hkl hne=>?_,rfl⟩
   ·rw[Lh hk,if_pos hj,Nn hjl]
   ·rw[Lh hk,if_neg (by rw[hj];omega)]) N 0 s1 i1 (by omega) (Nat.zero_le _)
 rw[show CN N w (Cc N w) N 0 s1=Cc N w s2 from e2]
 rw[List.take_length] at i2
 unfold Cc
 obtain⟨s3,i3,e3⟩:=E5 w.b.Links.length (λn i s=>DW N w n i s) (λs=>some s) (λi s=>P4 w.b.Links.length s (λk=>if k<i then gM N (PP w.b k) (stA N (PP w.b k) k w.in_.Cmds (Nz N (PP w.b k) k w.in_.Faults (g0 k))) else stA N (PP w.b k) k w.in_.Cmds (Nz N (PP w.b k) k w.in_.Faults (g0 k)))) (λn k s hk=>by
  simp only[DW];rw[E7 hk];rfl) (λn i s hi hk=>by
  simp only[DW]
  rw[E6 hk,cond_true,BQ hk]
  simp only[hi.ix hk,Option.bind_some]
  rw[U7,Option.bind_some,BH (by omega),if_neg (Nat.lt_irrefl i)]
  refine⟨_,hi.upd hk _ ?_ λk hkl hne=>?_,rfl⟩
  ·rw[if_pos (Nat.lt_succ_self i),Nn hk]
  ·by_cases h:k<i
   ·rw[if_pos h,if_pos (by omega)]
   ·rw[if_neg h,if_neg (by omega)]) N 0 s2 (i2.congr λk _=>by rw[if_neg (Nat.not_lt_zero k)]) (by omega) (Nat.zero_le _)
 exact⟨s3,e3,i3.congr λk hk=>by rw[if_pos hk]⟩
end Go.Proofs.YtblcgjadhemlbaaGreat
