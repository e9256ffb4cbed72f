import Derived.Test.YtblcgjadhemlbaaGreatTPureGt
namespace Go.Proofs.YtblcgjadhemlbaaGreat
open Go.RowKit
set_option linter.unusedVariables false
set_option linter.unusedSimpArgs false
structure Vb (P W:Nat) (o:List (List Int)):Prop where
 len:o.length=P
 all:∀x∈o,x.length=W
theorem Vb.ix {P W:Nat}{o:List (List Int)}(h:Vb P W o) {k:Nat}(hk:k<P):∃x,Go.Proofs.YtblcgjadhemlbaaGreat.ix o (k:Int)=some x∧x.length=W:=by
 obtain⟨x,e,hm⟩:=kG (l:=o) (i:=k) (by rw[h.len];exact hk)
 exact⟨x,e,h.all x hm⟩
theorem Vb.upd {P W:Nat}{o:List (List Int)}(h:Vb P W o) (i:Int) {x:List Int}(hx:x.length=W):Vb P W (upd o i x):=
 ⟨by rw[L3];exact h.len,λy hy=>by
  rcases List.mem_or_eq_of_mem_set hy with hy|rfl
  ·exact h.all y hy
  ·exact hx⟩
theorem VY {N:Nat}(hN:1000000<N) {s:Am}(h1:s.Own.length≤64) (h2:∀x∈s.Own,x.length≤1000) (h3:s.Rem.length≤1000) (h4:s.Gates.length≤1000) (h5:s.In.length≤1000) (h6:s.Out.length≤1000):Iv N s=some s:=by
 unfold Iv
 rw[Jd (by omega) _ (by decide)]
 obtain⟨o,⟨i1,i2⟩,e⟩:=D8 s.Own.length (λn i l=>EJ N s (EK N s) n i l) (EK N s) (λk (l:List (List Int))=>l.length=s.Own.length∧∀i,i<k→l[i]? =s.Own[i]?) (λn k l hk=>by
  simp only[EJ];rw[E0 hk];rfl) (λn k l hi hk=>by
  simp only[EJ]
  have hkl:k<l.length:=by rw[hi.1];exact hk
  rw[Eu hk,cond_true,BH hk,Option.bind_some,Kc N (by have:=h2 _ (List.getElem_mem hk);omega)]
  simp only[BH hkl,Option.bind_some]
  rw[BL (by omega)]
  refine⟨_,⟨by rw[L3];exact hi.1,λi hik=>?_⟩,rfl⟩
  by_cases hne:k=i
  ·subst hne;rw[Fi hkl];simp [hk]
  ·rw[Hr hne];exact hi.2 i (by omega)) N 0 (List.replicate ((s.Own.length:Int)).toNat ([]:List Int)) ⟨Ni _ _,λi hi=>by omega⟩ (by omega) (Nat.zero_le _)
 rw[show EJ N s (EK N s) N 0 _=EK N s o from e]
 have ho:o=s.Own:=List.ext_getElem? λi=>by
  rcases Nat.lt_or_ge i s.Own.length with h|h
  ·exact i2 i h
  ·rw[List.getElem?_eq_none h,List.getElem?_eq_none (by omega)]
 subst ho
 unfold EK
 rw[Kc N (by omega),Option.bind_some,Ts N (by omega),Option.bind_some,Kc N (by omega),Option.bind_some,Kc N (by omega),Option.bind_some]
def kF (pk:List Int) (i:Int):Int:=pk.getD i.toNat 0
theorem Z7 {pk:List Int}{i:Int}(h0:0≤i) (h1:i<pk.length):ix pk i=some (kF pk i):=by
 obtain⟨n,rfl,hn⟩:=cD h0 h1
 rw[BH hn];simp [kF,List.getD_eq_getElem?_getD,hn]
end Go.Proofs.YtblcgjadhemlbaaGreat
namespace Go.Proofs.YtblcgjadhemlbaaGreat
open Go.RowKit
set_option linter.unusedVariables false
set_option linter.unusedSimpArgs false
theorem Nk {N:Nat}(hN:18446744073709551616<N) (v n d:Int):Df (Gd N v n d):=by
 unfold Gd
 rw[Nf hN,Option.bind_some]
 exact Df.cond (λ_=>Df.mk _) λ_=>Df.mk _
theorem Se {N:Nat}(hN:18446744073709551616<N) (v n d:Int):Df (JE N v n d):=by
 unfold JE
 rw[Nf hN,Option.bind_some]
 exact Df.cond (λ_=>Df.mk _) λ_=>Df.mk _
theorem gW {N:Nat}(hN:18446744073709551616<N) (c:List BT) (x:Int):Df (Ko N c x):=by
 unfold Ko
 obtain⟨v,hv,k⟩:=Ib (N:=N) (by omega) c
 rw[hv,Option.bind_some]
 cases v
 ·exact Df.mk _
 ·have h:=k rfl
  obtain⟨y,hy⟩:=PU hN h.1 h.2.1 x
  exact⟨y.1,by rw[hy];rfl⟩
theorem Ue {N:Nat}(hN:18446744073709551616<N) (l:A4) (g:Ax) (fr to:Int):Df (Kn N l g fr to):=by
 have head:Df (J5 N l fr to):=by
  unfold J5
  refine Df.cond (λ_=>Df.mk _) λ_=>?_
  refine(Nk hN _ _ _).bind λv _=>(PZ N _ _).bind λu _=>Df.mk _
 have asks:Df (J6 N l g.Pos g.Open l.Rate fr to):=by
  unfold J6 JP JQ JR JS Hh Hj
  have j1:Df (Option.bind (Ge N fr l.Crest) λy95=>Option.bind (Gd N (max 0 y95) l.Num l.Den) λy104=>some y104):=(PZ N _ _).bind λu _=>(Nk hN _ _ _).bind λv _=>Df.mk _
  refine Df.cond (λ_=>?_) λ_=>Df.cond (λ_=>(Nk hN _ _ _).bind λv _=>Df.mk _) λ_=>Df.cond (λ_=>Df.cond (λ_=>(Nk hN _ _ _).bind λv _=>Df.mk _) λ_=>Df.mk _) λ_=>Df.cond (λ_=>Df.cond (λ_=>Df.mk _) λ_=>j1) λ_=>Df.cond (λ_=>j1) λ_=>Df.mk _
  exact head.bind λa _=>(gW hN _ _).bind λb _=>(Nk hN _ _ _).bind λc _=>(Tw N _ _).bind λd _=>Df.mk _
 unfold Kn
 exact asks.bind λv _=>Df.mk _
theorem UL {N:Nat}(hN:18446744073709551616<N) (l:A4) (fr to:Int):Df (Je N l fr to):=by
 unfold Je
 exact Df.cond (λ_=>Df.mk _) λ_=>(Se hN _ _ _).bind λa _=>(Se hN _ _ _).bind λb _=>Df.mk _
def gY (W:Nat) (f:List Int→Option (List Int×List Int)):Prop:=∀x,x.length=W→∃r,f x=some r∧r.1.length=W∧r.2.length=W
def kC (W:Nat) (l:List AK):Prop:=∀e∈l,gY W e.take
theorem kC.snoc {W:Nat}{l:List AK}(h:kC W l) {e:AK}(he:gY W e.take):kC W (l++[e]):=λx hx=>by
 rcases List.mem_append.1 hx with hx|hx
 ·exact h x hx
 ·rw[List.mem_singleton.1 hx];exact he
theorem VZ {N:Nat}(hN:1000000<N) (a b:List AK) (ha:a.length≤100000) (hb:b.length≤100000):Bq N [a,b]=some (a++b):=by
 obtain⟨n,rfl⟩:∃n,N=n+3:=⟨N-3,by omega⟩
 have e1:BM ((a.length:Int)+(b.length:Int))=((a.length+b.length:Nat):Int):=by rw[Dm (by omega) (by omega)];rfl
 have e0:BM (0+(a.length:Int))=((a.length:Nat):Int):=by rw[Dm (by omega) (by omega)];omega
 have grow:Bz (n+3) ((a.length+b.length:Nat):Int)=some []:=by
  unfold Bz Bn
  rw[decide_eq_false (show ¬((a.length+b.length:Nat):Int)<0 by omega),cond_false,Dm (n:=(0:Int)-0) (by decide) (by decide),Dm (n:=((a.length+b.length:Nat):Int)-(0-0)) (by omega) (by omega)]
  cases hc:decide (0<((a.length+b.length:Nat):Int)-(0-0))
  ·rfl
  ·rw[cond_true,Jb (by omega)]
   rfl
 unfold Bq
 simp only[BW]
 rw[show decide ((0:Int)<(([a,b]:List (List AK)).length:Int))=true by simp,cond_true,show Go.Proofs.YtblcgjadhemlbaaGreat.ix [a,b] 0=some a from rfl,Option.bind_some,e0,decide_eq_false (show ¬((a.length:Nat):Int)<0 by omega),cond_false,show BM (0+1)=1 from rfl,show decide ((1:Int)<(([a,b]:List (List AK)).length:Int))=true by simp,cond_true,show Go.Proofs.YtblcgjadhemlbaaGreat.ix [a,b] 1=some b from rfl,Option.bind_some,e1,decide_eq_false (show ¬((a.length+b.length:Nat):Int)<0 by omega),cond_false,show BM (1+1)=2 from rfl,show decide ((2:Int)<(([a,b]:List (List AK)).length:Int))=false by simp,cond_false]
 unfold Bh
 rw[grow,Option.bind_some]
 simp only[BV]
 rw[show decide ((0:Int)<(([a,b]:List (List AK)).length:Int))=true by simp,cond_true,show Go.Proofs.YtblcgjadhemlbaaGreat.ix [a,b] 0=some a from rfl,Option.bind_some,Jb (by simp;omega),show BM (0+1)=1 from rfl,show decide ((1:Int)<(([a,b]:List (List AK)).length:Int))=true by simp,cond_true,show Go.Proofs.YtblcgjadhemlbaaGreat.ix [a,b] 1=some b from rfl,Option.bind_some,Jb (by simp;omega),show BM (1+1)=2 from rfl,show decide ((2:Int)<(([a,b]:List (List AK)).length:Int))=false by simp,cond_false]
 rfl
theorem WH {N:Nat}(hN:18446744073709551616<N) (pl:Dl) (v m:Int):Df (Iw N pl v m):=by
 unfold Iw Hf
 rw[Nf hN,Option.bind_some]
 exact Df.cond (λ_=>Df.mk _) λ_=>Df.cond (λ_=>Df.cond (λ_=>Df.mk _) λ_=>Df.mk _) λ_=>Df.cond (λ_=>Df.mk _) λ_=>Df.mk _
structure kB (P W:Nat) (o:List (List Int)) (out:List Int) (ms:List Ah) (sn:List Av) (M:Nat):Prop where
 own:Vb P W o
 out:out.length=W
 mv:ms.length≤M
 sn:sn.length≤M
theorem kB.le {P W:Nat}{o:List (List Int)}{out:List Int}{ms:List Ah}{sn:List Av}{M M':Nat}(h:kB P W o out ms sn M) (hM:M≤M'):kB P W o out ms sn M':=⟨h.own,h.out,Nat.le_trans h.mv hM,Nat.le_trans h.sn hM⟩
end Go.Proofs.YtblcgjadhemlbaaGreat
namespace Go.Proofs.YtblcgjadhemlbaaGreat
open Go.RowKit
set_option linter.unusedVariables false
set_option linter.unusedSimpArgs false
end Go.Proofs.YtblcgjadhemlbaaGreat
namespace Go.Proofs.YtblcgjadhemlbaaGreat
open Go.RowKit
set_option linter.unusedVariables false
set_option linter.unusedSimpArgs false
def sl (N:Nat) (a b:Int):Int:=(Ep N a b).getD 0
theorem slN {an dn q r:Nat}(hd:0<dn) (hn:an≤dn) (hq:q=an*1099511627776/dn) (hr:r=an*1099511627776%dn):q≤1099511627776∧an*1099511627776=q*dn+r∧r<dn:=by
 refine⟨?_,by rw[hq,hr];exact Up _ _,by rw[hr];exact Nat.mod_lt _ hd⟩
 rw[hq]
 exact Nat.div_le_of_le_mul (by rw[Nat.mul_comm dn];rw[Nat.mul_comm an];exact Nat.mul_le_mul_left _ hn)
structure kN (N:Nat) (b:AW) (l:A4):Prop where
 base:Jf b l
 gate:l.Kind=0→Gg N l.Band.Lo l.Rate=some true∧Gg N l.Rate l.Band.Hi=some true∧(0≤l.Positions∧l.Positions≤64)∧(0≤l.Speed∧l.Speed≤l.Positions)∧(0≤l.Leak∧l.Leak≤1125899906842624)∧(l.BackDen=0→l.BackNum=0)∧(l.To≠ -1∨l.BackDen=0)
 weir:l.Kind=1∨l.Kind=5→0≤l.Crest∧l.Crest≤1125899906842624
 pump:l.Kind=2→(0≤l.Num∧l.Num≤1125899906842624)∧(1≤l.Positions∧l.Positions≤64)∧(0≤l.Speed∧l.Speed≤l.Positions)
 siph:l.Kind=3→(0≤l.Prime∧l.Prime≤1125899906842624)∧(0≤l.Break∧l.Break≤1125899906842624)∧l.Break<l.Prime
 seep:l.Kind=4→(l.BackDen=0→l.BackNum=0)
 none_:l.Kind≠0→l.Kind≠2→l.Positions=0∧l.Speed=0
def Holds (n:Nat) (s:List Int) (g:Nat→Int):Prop:=s.length=n∧∀i,i<n→s[i]? =some (g i)
theorem Holds.ix {n:Nat}{s:List Int}{g:Nat→Int}(h:Holds n s g) {a:Int}(h0:0≤a) (h1:a<n):ix s a=some (g a.toNat):=by
 unfold Go.Proofs.YtblcgjadhemlbaaGreat.ix
 rw[if_neg (by omega)]
 exact h.2 _ (by omega)
theorem Holds.upd {n:Nat}{s:List Int}{g:Nat→Int}(h:Holds n s g) {a:Int}(h0:0≤a) (h1:a<n) (v:Int):Holds n (upd s a v) (λi=>if (i:Int)=a then v else g i):=by
 refine⟨by rw[Jj,h.1],λi hi=>?_⟩
 unfold Go.Proofs.YtblcgjadhemlbaaGreat.upd
 rw[List.getElem?_set]
 have hl:=h.1
 show _=some (if (i:Int)=a then v else g i)
 by_cases e:(i:Int)=a
 ·rw[if_pos (by omega),if_pos (by omega),if_pos e]
 ·rw[if_neg (by omega),if_neg e]
  exact h.2 i hi
theorem Holds.congr {n:Nat}{s:List Int}{g g':Nat→Int}(h:Holds n s g) (e:∀i,i<n→g i=g' i):Holds n s g':=⟨h.1,λi hi=>(h.2 i hi).trans (congrArg some (e i hi))⟩
end Go.Proofs.YtblcgjadhemlbaaGreat
namespace Go.Proofs.YtblcgjadhemlbaaGreat
open Go.RowKit
set_option linter.unusedVariables false
set_option linter.unusedSimpArgs false
def kH (s:Am) (k:Nat):Ax:=s.Gates.getD k default
end Go.Proofs.YtblcgjadhemlbaaGreat
namespace Go.Proofs.YtblcgjadhemlbaaGreat
open Go.RowKit
set_option linter.unusedVariables false
set_option linter.unusedSimpArgs false
def dY (N:Nat) (l:A4):Prop:=(0≤l.Positions∧l.Positions≤64)∧0≤l.Speed∧l.Speed≤l.Positions
theorem kN.pos {N:Nat}{b:AW}{l:A4}(h:kN N b l):dY N l:=by
 by_cases h0:l.Kind=0
 ·have:=h.gate h0;exact⟨this.2.2.1,this.2.2.2.1⟩
 ·by_cases h2:l.Kind=2
  ·have:=h.pump h2;exact⟨⟨by omega,this.2.1.2⟩,this.2.2⟩
  ·have:=h.none_ h0 h2;exact⟨by omega,by omega⟩
theorem X2:GS BN=some true:=by decide +kernel
end Go.Proofs.YtblcgjadhemlbaaGreat
namespace Go.Proofs.YtblcgjadhemlbaaGreat
open Go.RowKit
set_option linter.unusedVariables false
set_option linter.unusedSimpArgs false
def Fg (p q:List Int):List Int:=List.zipWith (· + ·) p q
def H4 (p q:List Int):List Int:=List.zipWith (· - ·) p q
theorem MF {p q:List Int}{W:Nat}(hp:p.length=W) (hq:q.length=W):(Fg p q).length=W:=by simp [Fg,hp,hq]
theorem Vl {p q:List Int}{W:Nat}(hp:p.length=W) (hq:q.length=W):(H4 p q).length=W:=by simp [H4,hp,hq]
theorem Js:∀{p q:List Int},p.length=q.length→(Fg p q).sum=p.sum+q.sum
 |[],[],_=>rfl
 |a::p,b::q,h=>by
  have:=Js (p:=p) (q:=q) (by simpa using h)
  simp only[Fg,List.zipWith_cons_cons,List.sum_cons] at this ⊢
  omega
theorem SJ:∀{p q:List Int},p.length=q.length→(H4 p q).sum=p.sum-q.sum
 |[],[],_=>rfl
 |a::p,b::q,h=>by
  have:=SJ (p:=p) (q:=q) (by simpa using h)
  simp only[H4,List.zipWith_cons_cons,List.sum_cons] at this ⊢
  omega
structure PX (W:Nat) (p:List Int):Prop where
 len:p.length=W
 nn:∀x∈p,0≤x
 mv:p.sum≤1125899906842624
theorem HN:∀{p:List Int},(∀x∈p,0≤x)→∀x∈p,x≤p.sum
 |a::p,h,x,hx=>by
  have h0:=Ip (l:=p) λy hy=>h y (List.mem_cons_of_mem _ hy)
  have ha:=h a (List.mem_cons_self ..)
  rw[List.sum_cons]
  rcases List.mem_cons.1 hx with rfl|hx
  ·omega
  ·have:=HN (p:=p) (λy hy=>h y (List.mem_cons_of_mem _ hy)) x hx
   omega
theorem PX.mem {W:Nat}{p:List Int}(h:PX W p) {x:Int}(hx:x∈p):0≤x∧x≤1125899906842624:=⟨h.nn x hx,Int.le_trans (HN h.nn x hx) h.mv⟩
theorem PX.sum0 {W:Nat}{p:List Int}(h:PX W p):0≤p.sum:=Ip h.nn
theorem Q3 {p q:List Int}(hp:∀x∈p,0≤x) (hq:∀x∈q,0≤x):∀x∈Fg p q,0≤x:=λx hx=>by
 obtain⟨i,hi⟩:=List.mem_iff_getElem?.1 hx
 rw[Fg,List.getElem?_zipWith] at hi
 split at hi
 ·rename_i a b ha hb
  have:=hp a (List.mem_of_getElem? ha)
  have:=hq b (List.mem_of_getElem? hb)
  cases hi
  omega
 ·cases hi
theorem PX.add {W:Nat}{p q:List Int}(hp:PX W p) (hq:PX W q) (h:p.sum+q.sum≤1125899906842624):PX W (Fg p q):=
 ⟨MF hp.len hq.len,Q3 hp.nn hq.nn,by rw[Js (hp.len.trans hq.len.symm)];exact h⟩
theorem PX.zero (W:Nat):PX W (List.replicate W 0):=⟨by simp,λx hx=>by rw[(List.mem_replicate.1 hx).2];exact Int.le_refl 0,by simp⟩
theorem UM (W:Nat):(List.replicate W (0:Int)).sum=0:=by simp
structure TP (t p:List Int):Prop where
 len:t.length=p.length
 le:∀(i:Nat) (x y:Int),t[i]? =some x→p[i]? =some y→0≤x∧x≤y
theorem TP.sub {W:Nat}{t p:List Int}(h:TP t p) (hp:PX W p):PX W (H4 p t)∧(H4 p t).sum=p.sum-t.sum∧PX W t:=by
 have hl:t.length=W:=h.len.trans hp.len
 have ht0:∀x∈t,0≤x:=λx hx=>by
  obtain⟨i,hi⟩:=List.mem_iff_getElem?.1 hx
  have hil:=(List.getElem?_eq_some_iff.1 hi).1
  have hip:i<p.length:=by rw[←h.len];exact hil
  exact(h.le i x _ hi (List.getElem?_eq_getElem hip)).1
 have hs:=SJ (p:=p) (q:=t) h.len.symm
 have hnn:∀x∈H4 p t,0≤x:=λx hx=>by
  obtain⟨i,hi⟩:=List.mem_iff_getElem?.1 hx
  rw[H4,List.getElem?_zipWith] at hi
  split at hi
  ·rename_i a b ha hb
   have:=h.le i b a hb ha
   cases hi
   omega
  ·cases hi
 have h1:=Ip hnn
 have h2:=Ip ht0
 have h3:=hp.mv
 exact⟨⟨Vl hp.len hl,hnn,by omega⟩,hs,hl,ht0,by omega⟩
theorem U8 {W:Nat}{p t:List Int}(hp:p.length=W) (ht:t.length=W) (h:∀x∈t,x=0):H4 p t=p:=by
 apply List.ext_getElem?
 intro i
 rw[H4,List.getElem?_zipWith]
 rcases Nat.lt_or_ge i W with hi|hi
 ·have h1:i<p.length:=by omega
  have h2:i<t.length:=by omega
  rw[List.getElem?_eq_getElem h1,List.getElem?_eq_getElem h2]
  have:=h _ (List.getElem_mem h2)
  simp [this]
 ·rw[List.getElem?_eq_none (show p.length≤i by omega)]
theorem SG:∀{t:List Int},(∀x∈t,0≤x)→t.sum≤0→∀x∈t,x=0:=λ{t} h hs x hx=>by
 have h1:=HN h x hx
 have h2:=h x hx
 omega
theorem SQ {N:Nat}(hN:1000000<N) {p:List Int}(hl:p.length≤1000) (h0:∀x∈p,0≤x) (hs:p.sum≤2305843009213693952):Dd N p=some p.sum:=by
 unfold Dd
 obtain⟨s,⟨i1,i2⟩,e⟩:=D8 p.length (λn i s=>Fd N p (G3 N) n s i) (G3 N) (λk s=>s=(p.take k).sum∧0≤s) (λn k s hk=>by
  simp only[Fd];rw[E0 hk];rfl) (λn k s hi hk=>by
  obtain⟨i1,i2⟩:=hi
  have h1:=Hp h0 (k+1)
  have h2:=Hp h0 k
  have h3:=h0 _ (List.getElem_mem hk)
  rw[Jw hk] at h1
  simp only[Fd]
  rw[Eu hk,cond_true,BH hk,Option.bind_some,Xa N (by omega) (by omega) (by omega) (by omega),Option.bind_some,BL (by omega)]
  exact⟨_,⟨by rw[Jw hk,i1],by omega⟩,rfl⟩) N 0 0 ⟨rfl,Int.le_refl _⟩ (by omega) (Nat.zero_le _)
 rw[List.take_length] at i1
 subst i1
 exact e
theorem YB {N:Nat}(hN:1000000<N) {p q:List Int}(hp:p.length≤1000) (hl:q.length=p.length) (bp:∀x∈p, -2305843009213693952≤x∧x≤2305843009213693952) (bq:∀x∈q, -2305843009213693952≤x∧x≤2305843009213693952):GN N p q=some (Fg p q):=by
 unfold GN
 have hm:max (p.length:Int) (q.length:Int)=(p.length:Int):=by omega
 rw[hm,Jd hp _ (by decide),Uq]
 obtain⟨s,⟨i1,i2,i3⟩,e⟩:=D8 q.length (λn i s=>Em N q (Gc N) n i s) (Gc N) (λk s=>s.length=p.length∧(∀i,k≤i→s[i]? =p[i]?)∧∀i,i<k→s[i]? =(Fg p q)[i]?) (λn k s hk=>by
  simp only[Em];rw[E0 hk];rfl) (λn k s hi hk=>by
  obtain⟨i1,i2,i3⟩:=hi
  simp only[Em]
  have hks:k<s.length:=by omega
  have hkp:k<p.length:=by omega
  have hsk:s[k]=p[k]:=by
   have:=i2 k (Nat.le_refl _)
   rw[List.getElem?_eq_getElem hks,List.getElem?_eq_getElem hkp] at this
   exact Option.some.inj this
  have h1:=bp _ (List.getElem_mem hkp)
  have h2:=bq _ (List.getElem_mem hk)
  rw[Eu hk,cond_true,BH hk,Option.bind_some,BH hks,Option.bind_some,Option.bind_some,hsk,Xa N (by omega) (by omega) (by omega) (by omega),Option.bind_some,Option.bind_some,Option.bind_some,BL (by omega)]
  refine⟨_,⟨by rw[L3];exact i1,λi hi=>by rw[Hr (by omega)];exact i2 i (by omega),λi hi=>?_⟩,rfl⟩
  by_cases hne:k=i
  ·subst hne
   rw[Fi hks,Fg,List.getElem?_zipWith,List.getElem?_eq_getElem hkp,List.getElem?_eq_getElem hk]
  ·rw[Hr hne];exact i3 i (by omega)) N 0 p ⟨rfl,λi _=>rfl,λi hi=>by omega⟩ (by omega) (Nat.zero_le _)
 have:s=Fg p q:=List.ext_getElem? λi=>by
  rcases Nat.lt_or_ge i q.length with h|h
  ·exact i3 i h
  ·rw[List.getElem?_eq_none (by omega),List.getElem?_eq_none (by simp [Fg];omega)]
 subst this
 exact e
theorem TV {N:Nat}(hN:1000000<N) {p t:List Int}(hp:p.length≤1000) (hl:t.length=p.length) (bp:∀x∈p, -2305843009213693952≤x∧x≤2305843009213693952) (bt:∀x∈t, -2305843009213693952≤x∧x≤2305843009213693952):Gs N p t=some (H4 p t):=by
 unfold Gs
 rw[Jd hp _ (by decide),Uq]
 obtain⟨s,⟨i1,i2,i3⟩,e⟩:=D8 t.length (λn i s=>Ed N t (GI N) n i s) (GI N) (λk s=>s.length=p.length∧(∀i,k≤i→s[i]? =p[i]?)∧∀i,i<k→s[i]? =(H4 p t)[i]?) (λn k s hk=>by
  simp only[Ed];rw[E0 hk];rfl) (λn k s hi hk=>by
  obtain⟨i1,i2,i3⟩:=hi
  simp only[Ed]
  have hks:k<s.length:=by omega
  have hkp:k<p.length:=by omega
  have hsk:s[k]=p[k]:=by
   have:=i2 k (Nat.le_refl _)
   rw[List.getElem?_eq_getElem hks,List.getElem?_eq_getElem hkp] at this
   exact Option.some.inj this
  have h1:=bp _ (List.getElem_mem hkp)
  have h2:=bt _ (List.getElem_mem hk)
  rw[Eu hk,cond_true,BH hk,Option.bind_some,BH hks,Option.bind_some,Option.bind_some,Option.bind_some,Option.bind_some,hsk,Dm (n:=p[k]-t[k]) (by omega) (by omega),BL (by omega)]
  refine⟨_,⟨by rw[L3];exact i1,λi hi=>by rw[Hr (by omega)];exact i2 i (by omega),λi hi=>?_⟩,rfl⟩
  by_cases hne:k=i
  ·subst hne
   rw[Fi hks,H4,List.getElem?_zipWith,List.getElem?_eq_getElem hkp,List.getElem?_eq_getElem hk]
  ·rw[Hr hne];exact i3 i (by omega)) N 0 p ⟨rfl,λi _=>rfl,λi hi=>by omega⟩ (by omega) (Nat.zero_le _)
 have:s=H4 p t:=List.ext_getElem? λi=>by
  rcases Nat.lt_or_ge i t.length with h|h
  ·exact i3 i h
  ·rw[List.getElem?_eq_none (by omega),List.getElem?_eq_none (by simp [H4];omega)]
 subst this
 exact e
theorem PX.big {W:Nat}{p:List Int}(h:PX W p):∀x∈p, -2305843009213693952≤x∧x≤2305843009213693952:=λx hx=>by
 have:=h.mem hx;omega
theorem PX.total {N W:Nat}(hN:1000000<N) (hW:W≤1000) {p:List Int}(h:PX W p):Dd N p=some p.sum:=SQ hN (by rw[h.len];exact hW) h.nn (by have:=h.mv;omega)
theorem PX.padd {N W:Nat}(hN:1000000<N) (hW:W≤1000) {p q:List Int}(hp:PX W p) (hq:PX W q):GN N p q=some (Fg p q):=YB hN (by rw[hp.len];exact hW) (hq.len.trans hp.len.symm) hp.big hq.big
theorem PX.wo {N W:Nat}(hN:1000000<N) (hW:W≤1000) {p t:List Int}(hp:PX W p) (ht:PX W t):Gs N p t=some (H4 p t):=TV hN (by rw[hp.len];exact hW) (ht.len.trans hp.len.symm) hp.big ht.big
theorem NZ:∀{l:List Int}{i:Nat}(h:i<l.length) (x:Int),(l.set i x).sum=l.sum-l[i]+x
 |a::l,0,_,x=>by simp;omega
 |a::l,i+1,h,x=>by
  have:=NZ (l:=l) (i:=i) (by simpa using h) x
  simp only[List.set_cons_succ,List.sum_cons,List.getElem_cons_succ,this]
  omega
theorem Uf {N W:Nat}(hN:1000000<N) (hW:W≤1000) {p:List Int}(hp:PX W p) (o n:Int):∃t,J4 N p o n=some (t,H4 p t)∧TP t p∧(t=List.replicate W 0∨∃i:Nat,o=(i:Int)∧i<W∧0<n∧0<p.getD i 0∧t=(List.replicate W 0).set i (min n (p.getD i 0)))∧((∃i:Nat,o=(i:Int)∧i<W∧0<n)→t=(List.replicate W 0).set o.toNat (min n (p.getD o.toNat 0))):=by
 have z0:TP (List.replicate W 0) p:=⟨by simp [hp.len],λi x y hx hy=>by
  rw[List.getElem?_replicate] at hx
  split at hx
  ·cases hx;exact⟨Int.le_refl _,hp.nn y (List.mem_of_getElem? hy)⟩
  ·cases hx⟩
 have j0:∀t,TP t p→Hg N p t=some (t,H4 p t):=λt ht=>by
  unfold Hg
  rw[hp.wo hN hW (ht.sub hp).2.2,Option.bind_some]
 have hr:List.replicate ((p.length:Int)).toNat (0:Int)=List.replicate W 0:=by rw[hp.len];rfl
 unfold J4 Km
 rw[Jd (by rw[hp.len];exact hW) _ (by decide),hr]
 by_cases hi:0≤o∧o<W
 ·obtain⟨i,rfl⟩:∃i:Nat,o=i:=⟨o.toNat,by omega⟩
  have hip:i<p.length:=by rw[hp.len];omega
  have hg:p.getD i 0=p[i]:=by simp [List.getD_eq_getElem?_getD,hip]
  have h0:=hp.nn _ (List.getElem_mem hip)
  rw[decide_eq_false (show ¬(i:Int)<0 by omega),decide_eq_false (show ¬(p.length:Int)≤(i:Int) by omega),Bool.or_self,cond_false,BH hip,Option.bind_some,Option.bind_some,decide_eq_false (show ¬p[i]<0 by omega),cond_false,Option.bind_some,Option.bind_some]
  rw[Int.toNat_natCast,hg]
  by_cases hm:0<min n p[i]
  ·rw[decide_eq_true hm,cond_true,BH (show i<(List.replicate W (0:Int)).length by simp;omega),Option.bind_some,Option.bind_some]
   have hv:TP ((List.replicate W (0:Int)).set i (min n p[i])) p:=⟨by simp [hp.len],λj x y hx hy=>by
    by_cases hij:i=j
    ·subst hij
     rw[List.getElem?_set_self (by simp;omega)] at hx
     rw[List.getElem?_eq_getElem hip] at hy
     cases hx;cases hy
     omega
    ·rw[List.getElem?_set_ne hij] at hx
     exact z0.le j x y hx hy⟩
   exact⟨_,j0 _ hv,hv,.inr ⟨i,rfl,by omega,by omega,by rw[hg];omega,by rw[hg];rfl⟩,λ_=>rfl⟩
  ·rw[decide_eq_false hm,cond_false]
   refine⟨_,j0 _ z0,z0,.inl rfl,λ⟨j,hj,hjW,hn⟩=>?_⟩
   have:min n p[i]=0:=by omega
   rw[this]
   apply List.ext_getElem?
   intro k
   by_cases hik:i=k
   ·subst hik;rw[List.getElem?_set_self (by simp;omega),List.getElem?_replicate,if_pos (by omega)]
   ·rw[List.getElem?_set_ne hik]
 ·have hc:(decide (o<0)||decide ((p.length:Int)≤o))=true:=by
   rw[hp.len]
   simp only[Bool.or_eq_true,decide_eq_true_eq]
   omega
  rw[hc,cond_true,Option.bind_some,cond_true,Option.bind_some,decide_eq_false (show ¬0<min n 0 by omega),cond_false]
  exact⟨_,j0 _ z0,z0,.inl rfl,λ⟨j,hj,hjW,_⟩=>absurd ⟨by omega,by omega⟩ hi⟩
end Go.Proofs.YtblcgjadhemlbaaGreat
