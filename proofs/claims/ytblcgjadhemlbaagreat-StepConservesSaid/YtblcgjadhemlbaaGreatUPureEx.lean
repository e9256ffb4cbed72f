import Derived.Test.YtblcgjadhemlbaaGreatUPureGt
namespace Go.Proofs.YtblcgjadhemlbaaGreat
open Go.RowKit
set_option linter.unusedVariables false
set_option linter.unusedSimpArgs false
structure Va (P W:Nat) (o:List (List Int)):Prop where
 len:o.length=P
 all:∀x∈o,x.length=W
theorem Va.ix {P W:Nat}{o:List (List Int)}(h:Va P W o) {k:Nat}(hk:k<P):∃x,Go.Proofs.YtblcgjadhemlbaaGreat.ix o (k:Int)=some x∧x.length=W:=by
 obtain⟨x,e,hm⟩:=kQ (l:=o) (i:=k) (by rw[h.len];exact hk)
 exact⟨x,e,h.all x hm⟩
theorem Va.upd {P W:Nat}{o:List (List Int)}(h:Va P W o) (i:Int) {x:List Int}(hx:x.length=W):Va P W (upd o i x):=
 ⟨by rw[Kt];exact h.len,λy hy=>by
  rcases List.mem_or_eq_of_mem_set hy with hy|rfl
  ·exact h.all y hy
  ·exact hx⟩
theorem VY {N:Nat}(hN:1000000<N) {s:Ak}(h1:s.Own.length≤64) (h2:∀x∈s.Own,x.length≤1000) (h3:s.Rem.length≤1000) (h4:s.Gates.length≤1000) (h5:s.In.length≤1000) (h6:s.Out.length≤1000):Ir N s=some s:=by
 unfold Ir
 rw[I5 (by omega) _ (by decide)]
 obtain⟨o,⟨i1,i2⟩,e⟩:=Da s.Own.length (λn i l=>ED N s (EE N s) n i l) (EE N s) (λk (l:List (List Int))=>l.length=s.Own.length∧∀i,i<k→l[i]? =s.Own[i]?) (λn k l hk=>by
  simp only[ED];rw[Ey hk];rfl) (λn k l hi hk=>by
  simp only[ED]
  have hkl:k<l.length:=by rw[hi.1];exact hk
  rw[Ea hk,cond_true,BA hk,Option.bind_some,KU N (by have:=h2 _ (List.getElem_mem hk);omega)]
  simp only[BA hkl,Option.bind_some]
  rw[BE (by omega)]
  refine⟨_,⟨by rw[Kt];exact hi.1,λi hik=>?_⟩,rfl⟩
  by_cases hne:k=i
  ·subst hne;rw[FQ hkl];simp [hk]
  ·rw[Gy hne];exact hi.2 i (by omega)) N 0 (List.replicate ((s.Own.length:Int)).toNat ([]:List Int)) ⟨Nc _ _,λi hi=>by omega⟩ (by omega) (Nat.zero_le _)
 rw[show ED N s (EE N s) N 0 _=EE N s o from e]
 have ho:o=s.Own:=List.ext_getElem? λi=>by
  rcases Nat.lt_or_ge i s.Own.length with h|h
  ·exact i2 i h
  ·rw[List.getElem?_eq_none h,List.getElem?_eq_none (by omega)]
 subst ho
 unfold EE
 rw[KU N (by omega),Option.bind_some,Tm N (by omega),Option.bind_some,KU N (by omega),Option.bind_some,KU N (by omega),Option.bind_some]
def kP (pk:List Int) (i:Int):Int:=pk.getD i.toNat 0
theorem aC {pk:List Int}{i:Int}(h0:0≤i) (h1:i<pk.length):ix pk i=some (kP pk i):=by
 obtain⟨n,rfl,hn⟩:=ZR h0 h1
 rw[BA hn];simp [kP,List.getD_eq_getElem?_getD,hn]
end Go.Proofs.YtblcgjadhemlbaaGreat
namespace Go.Proofs.YtblcgjadhemlbaaGreat
open Go.RowKit
set_option linter.unusedVariables false
set_option linter.unusedSimpArgs false
theorem Nf {N:Nat}(hN:18446744073709551616<N) (v n d:Int):Df (GY N v n d):=by
 unfold GY
 rw[NZ hN,Option.bind_some]
 exact Df.cond (λ_=>Df.mk _) λ_=>Df.mk _
theorem SW {N:Nat}(hN:18446744073709551616<N) (v n d:Int):Df (JA N v n d):=by
 unfold JA
 rw[NZ hN,Option.bind_some]
 exact Df.cond (λ_=>Df.mk _) λ_=>Df.mk _
theorem iC {N:Nat}(hN:18446744073709551616<N) (c:List BO) (x:Int):Df (Kl N c x):=by
 unfold Kl
 obtain⟨v,hv,k⟩:=IW (N:=N) (by omega) c
 rw[hv,Option.bind_some]
 cases v
 ·exact Df.mk _
 ·have h:=k rfl
  obtain⟨y,hy⟩:=PP hN h.1 h.2.1 x
  exact⟨y.1,by rw[hy];rfl⟩
theorem Uc {N:Nat}(hN:18446744073709551616<N) (l:Ay) (g:Au) (fr to:Int):Df (Kk N l g fr to):=by
 have head:Df (J2 N l fr to):=by
  unfold J2
  refine Df.cond (λ_=>Df.mk _) λ_=>?_
  refine(Nf hN _ _ _).bind λv _=>(PR N _ _).bind λu _=>Df.mk _
 have asks:Df (J3 N l g.Pos g.Open l.Rate fr to):=by
  unfold J3 JK JL JM JN Hh Hj
  have j1:Df (Option.bind (GZ N fr l.Crest) λy95=>Option.bind (GY N (max 0 y95) l.Num l.Den) λy104=>some y104):=(PR N _ _).bind λu _=>(Nf hN _ _ _).bind λv _=>Df.mk _
  refine Df.cond (λ_=>?_) λ_=>Df.cond (λ_=>(Nf hN _ _ _).bind λv _=>Df.mk _) λ_=>Df.cond (λ_=>Df.cond (λ_=>(Nf hN _ _ _).bind λv _=>Df.mk _) λ_=>Df.mk _) λ_=>Df.cond (λ_=>Df.cond (λ_=>Df.mk _) λ_=>j1) λ_=>Df.cond (λ_=>j1) λ_=>Df.mk _
  exact head.bind λa _=>(iC hN _ _).bind λb _=>(Nf hN _ _ _).bind λc _=>(Tr N _ _).bind λd _=>Df.mk _
 unfold Kk
 exact asks.bind λv _=>Df.mk _
theorem UH {N:Nat}(hN:18446744073709551616<N) (l:Ay) (fr to:Int):Df (Je N l fr to):=by
 unfold Je
 exact Df.cond (λ_=>Df.mk _) λ_=>(SW hN _ _ _).bind λa _=>(SW hN _ _ _).bind λb _=>Df.mk _
def iD (W:Nat) (f:List Int→Option (List Int×List Int)):Prop:=∀x,x.length=W→∃r,f x=some r∧r.1.length=W∧r.2.length=W
def kM (W:Nat) (l:List AK):Prop:=∀e∈l,iD W e.take
theorem kM.snoc {W:Nat}{l:List AK}(h:kM W l) {e:AK}(he:iD W e.take):kM W (l++[e]):=λx hx=>by
 rcases List.mem_append.1 hx with hx|hx
 ·exact h x hx
 ·rw[List.mem_singleton.1 hx];exact he
theorem VZ {N:Nat}(hN:1000000<N) (a b:List AK) (ha:a.length≤100000) (hb:b.length≤100000):Bk N [a,b]=some (a++b):=by
 obtain⟨n,rfl⟩:∃n,N=n+3:=⟨N-3,by omega⟩
 have e1:BC ((a.length:Int)+(b.length:Int))=((a.length+b.length:Nat):Int):=by rw[DB (by omega) (by omega)];rfl
 have e0:BC (0+(a.length:Int))=((a.length:Nat):Int):=by rw[DB (by omega) (by omega)];omega
 have grow:Bt (n+3) ((a.length+b.length:Nat):Int)=some []:=by
  unfold Bt Bg
  rw[decide_eq_false (show ¬((a.length+b.length:Nat):Int)<0 by omega),cond_false,DB (n:=(0:Int)-0) (by decide) (by decide),DB (n:=((a.length+b.length:Nat):Int)-(0-0)) (by omega) (by omega)]
  cases hc:decide (0<((a.length+b.length:Nat):Int)-(0-0))
  ·rfl
  ·rw[cond_true,Jc (by omega)]
   rfl
 unfold Bk
 simp only[BS]
 rw[show decide ((0:Int)<(([a,b]:List (List AK)).length:Int))=true by simp,cond_true,show Go.Proofs.YtblcgjadhemlbaaGreat.ix [a,b] 0=some a from rfl,Option.bind_some,e0,decide_eq_false (show ¬((a.length:Nat):Int)<0 by omega),cond_false,show BC (0+1)=1 from rfl,show decide ((1:Int)<(([a,b]:List (List AK)).length:Int))=true by simp,cond_true,show Go.Proofs.YtblcgjadhemlbaaGreat.ix [a,b] 1=some b from rfl,Option.bind_some,e1,decide_eq_false (show ¬((a.length+b.length:Nat):Int)<0 by omega),cond_false,show BC (1+1)=2 from rfl,show decide ((2:Int)<(([a,b]:List (List AK)).length:Int))=false by simp,cond_false]
 unfold Bd
 rw[grow,Option.bind_some]
 simp only[BR]
 rw[show decide ((0:Int)<(([a,b]:List (List AK)).length:Int))=true by simp,cond_true,show Go.Proofs.YtblcgjadhemlbaaGreat.ix [a,b] 0=some a from rfl,Option.bind_some,Jc (by simp;omega),show BC (0+1)=1 from rfl,show decide ((1:Int)<(([a,b]:List (List AK)).length:Int))=true by simp,cond_true,show Go.Proofs.YtblcgjadhemlbaaGreat.ix [a,b] 1=some b from rfl,Option.bind_some,Jc (by simp;omega),show BC (1+1)=2 from rfl,show decide ((2:Int)<(([a,b]:List (List AK)).length:Int))=false by simp,cond_false]
 rfl
theorem WM {N:Nat}(hN:18446744073709551616<N) (pl:Dx) (v m:Int):Df (Is N pl v m):=by
 unfold Is Hf
 rw[NZ hN,Option.bind_some]
 exact Df.cond (λ_=>Df.mk _) λ_=>Df.cond (λ_=>Df.cond (λ_=>Df.mk _) λ_=>Df.mk _) λ_=>Df.cond (λ_=>Df.mk _) λ_=>Df.mk _
structure kL (P W:Nat) (o:List (List Int)) (out:List Int) (ms:List Ae) (sn:List Ao) (M:Nat):Prop where
 own:Va P W o
 out:out.length=W
 mv:ms.length≤M
 sn:sn.length≤M
theorem kL.le {P W:Nat}{o:List (List Int)}{out:List Int}{ms:List Ae}{sn:List Ao}{M M':Nat}(h:kL P W o out ms sn M) (hM:M≤M'):kL P W o out ms sn M':=⟨h.own,h.out,Nat.le_trans h.mv hM,Nat.le_trans h.sn hM⟩
end Go.Proofs.YtblcgjadhemlbaaGreat
namespace Go.Proofs.YtblcgjadhemlbaaGreat
open Go.RowKit
set_option linter.unusedVariables false
set_option linter.unusedSimpArgs false
end Go.Proofs.YtblcgjadhemlbaaGreat
namespace Go.Proofs.YtblcgjadhemlbaaGreat
open Go.RowKit
set_option linter.unusedVariables false
set_option linter.unusedSimpArgs false
def sl (N:Nat) (a b:Int):Int:=(Em N a b).getD 0
theorem slN {an dn q r:Nat}(hd:0<dn) (hn:an≤dn) (hq:q=an*1099511627776/dn) (hr:r=an*1099511627776%dn):q≤1099511627776∧an*1099511627776=q*dn+r∧r<dn:=by
 refine⟨?_,by rw[hq,hr];exact Uo _ _,by rw[hr];exact Nat.mod_lt _ hd⟩
 rw[hq]
 exact Nat.div_le_of_le_mul (by rw[Nat.mul_comm dn];rw[Nat.mul_comm an];exact Nat.mul_le_mul_left _ hn)
structure kX (N:Nat) (b:AW) (l:Ay):Prop where
 base:JP b l
 gate:l.Kind=0→Gb N l.Band.Lo l.Rate=some true∧Gb N l.Rate l.Band.Hi=some true∧(0≤l.Positions∧l.Positions≤64)∧(0≤l.Speed∧l.Speed≤l.Positions)∧(0≤l.Leak∧l.Leak≤1125899906842624)∧(l.BackDen=0→l.BackNum=0)∧(l.To≠ -1∨l.BackDen=0)
 weir:l.Kind=1∨l.Kind=5→0≤l.Crest∧l.Crest≤1125899906842624
 pump:l.Kind=2→(0≤l.Num∧l.Num≤1125899906842624)∧(1≤l.Positions∧l.Positions≤64)∧(0≤l.Speed∧l.Speed≤l.Positions)
 siph:l.Kind=3→(0≤l.Prime∧l.Prime≤1125899906842624)∧(0≤l.Break∧l.Break≤1125899906842624)∧l.Break<l.Prime
 seep:l.Kind=4→(l.BackDen=0→l.BackNum=0)
 none_:l.Kind≠0→l.Kind≠2→l.Positions=0∧l.Speed=0
def Holds (n:Nat) (s:List Int) (g:Nat→Int):Prop:=s.length=n∧∀i,i<n→s[i]? =some (g i)
theorem Holds.ix {n:Nat}{s:List Int}{g:Nat→Int}(h:Holds n s g) {a:Int}(h0:0≤a) (h1:a<n):ix s a=some (g a.toNat):=by
 unfold Go.Proofs.YtblcgjadhemlbaaGreat.ix
 rw[if_neg (by omega)]
 exact h.2 _ (by omega)
theorem Holds.upd {n:Nat}{s:List Int}{g:Nat→Int}(h:Holds n s g) {a:Int}(h0:0≤a) (h1:a<n) (v:Int):Holds n (upd s a v) (λi=>if (i:Int)=a then v else g i):=by
 refine⟨by rw[Ji,h.1],λi hi=>?_⟩
 unfold Go.Proofs.YtblcgjadhemlbaaGreat.upd
 rw[List.getElem?_set]
 have hl:=h.1
 show _=some (if (i:Int)=a then v else g i)
 by_cases e:(i:Int)=a
 ·rw[if_pos (by omega),if_pos (by omega),if_pos e]
 ·rw[if_neg (by omega),if_neg e]
  exact h.2 i hi
theorem Holds.congr {n:Nat}{s:List Int}{g g':Nat→Int}(h:Holds n s g) (e:∀i,i<n→g i=g' i):Holds n s g':=⟨h.1,λi hi=>(h.2 i hi).trans (congrArg some (e i hi))⟩
end Go.Proofs.YtblcgjadhemlbaaGreat
namespace Go.Proofs.YtblcgjadhemlbaaGreat
open Go.RowKit
set_option linter.unusedVariables false
set_option linter.unusedSimpArgs false
def kR (s:Ak) (k:Nat):Au:=s.Gates.getD k default
end Go.Proofs.YtblcgjadhemlbaaGreat
namespace Go.Proofs.YtblcgjadhemlbaaGreat
open Go.RowKit
set_option linter.unusedVariables false
set_option linter.unusedSimpArgs false
def eH (N:Nat) (l:Ay):Prop:=(0≤l.Positions∧l.Positions≤64)∧0≤l.Speed∧l.Speed≤l.Positions
theorem kX.pos {N:Nat}{b:AW}{l:Ay}(h:kX N b l):eH N l:=by
 by_cases h0:l.Kind=0
 ·have:=h.gate h0;exact⟨this.2.2.1,this.2.2.2.1⟩
 ·by_cases h2:l.Kind=2
  ·have:=h.pump h2;exact⟨⟨by omega,this.2.1.2⟩,this.2.2⟩
  ·have:=h.none_ h0 h2;exact⟨by omega,by omega⟩
theorem X6:GP BN=some true:=by decide +kernel
end Go.Proofs.YtblcgjadhemlbaaGreat
namespace Go.Proofs.YtblcgjadhemlbaaGreat
open Go.RowKit
set_option linter.unusedVariables false
set_option linter.unusedSimpArgs false
def E0 (p q:List Int):List Int:=List.zipWith (· + ·) p q
def Ho (p q:List Int):List Int:=List.zipWith (· - ·) p q
theorem Js {p q:List Int}{W:Nat}(hp:p.length=W) (hq:q.length=W):(E0 p q).length=W:=by simp [E0,hp,hq]
theorem Vm {p q:List Int}{W:Nat}(hp:p.length=W) (hq:q.length=W):(Ho p q).length=W:=by simp [Ho,hp,hq]
theorem H1:∀{p q:List Int},p.length=q.length→(E0 p q).sum=p.sum+q.sum
 |[],[],_=>rfl
 |a::p,b::q,h=>by
  have:=H1 (p:=p) (q:=q) (by simpa using h)
  simp only[E0,List.zipWith_cons_cons,List.sum_cons] at this ⊢
  omega
theorem SE:∀{p q:List Int},p.length=q.length→(Ho p q).sum=p.sum-q.sum
 |[],[],_=>rfl
 |a::p,b::q,h=>by
  have:=SE (p:=p) (q:=q) (by simpa using h)
  simp only[Ho,List.zipWith_cons_cons,List.sum_cons] at this ⊢
  omega
structure PX (W:Nat) (p:List Int):Prop where
 len:p.length=W
 nn:∀x∈p,0≤x
 mv:p.sum≤1125899906842624
theorem Gk:∀{p:List Int},(∀x∈p,0≤x)→∀x∈p,x≤p.sum
 |a::p,h,x,hx=>by
  have h0:=Hr (l:=p) λy hy=>h y (List.mem_cons_of_mem _ hy)
  have ha:=h a (List.mem_cons_self ..)
  rw[List.sum_cons]
  rcases List.mem_cons.1 hx with rfl|hx
  ·omega
  ·have:=Gk (p:=p) (λy hy=>h y (List.mem_cons_of_mem _ hy)) x hx
   omega
theorem PX.mem {W:Nat}{p:List Int}(h:PX W p) {x:Int}(hx:x∈p):0≤x∧x≤1125899906842624:=⟨h.nn x hx,Int.le_trans (Gk h.nn x hx) h.mv⟩
theorem PX.sum0 {W:Nat}{p:List Int}(h:PX W p):0≤p.sum:=Hr h.nn
theorem NU {p q:List Int}(hp:∀x∈p,0≤x) (hq:∀x∈q,0≤x):∀x∈E0 p q,0≤x:=λx hx=>by
 obtain⟨i,hi⟩:=List.mem_iff_getElem?.1 hx
 rw[E0,List.getElem?_zipWith] at hi
 split at hi
 ·rename_i a b ha hb
  have:=hp a (List.mem_of_getElem? ha)
  have:=hq b (List.mem_of_getElem? hb)
  cases hi
  omega
 ·cases hi
theorem PX.add {W:Nat}{p q:List Int}(hp:PX W p) (hq:PX W q) (h:p.sum+q.sum≤1125899906842624):PX W (E0 p q):=
 ⟨Js hp.len hq.len,NU hp.nn hq.nn,by rw[H1 (hp.len.trans hq.len.symm)];exact h⟩
theorem PX.zero (W:Nat):PX W (List.replicate W 0):=⟨by simp,λx hx=>by rw[(List.mem_replicate.1 hx).2];exact Int.le_refl 0,by simp⟩
theorem UJ (W:Nat):(List.replicate W (0:Int)).sum=0:=by simp
structure TO (t p:List Int):Prop where
 len:t.length=p.length
 le:∀(i:Nat) (x y:Int),t[i]? =some x→p[i]? =some y→0≤x∧x≤y
theorem TO.sub {W:Nat}{t p:List Int}(h:TO t p) (hp:PX W p):PX W (Ho p t)∧(Ho p t).sum=p.sum-t.sum∧PX W t:=by
 have hl:t.length=W:=h.len.trans hp.len
 have ht0:∀x∈t,0≤x:=λx hx=>by
  obtain⟨i,hi⟩:=List.mem_iff_getElem?.1 hx
  have hil:=(List.getElem?_eq_some_iff.1 hi).1
  have hip:i<p.length:=by rw[←h.len];exact hil
  exact(h.le i x _ hi (List.getElem?_eq_getElem hip)).1
 have hs:=SE (p:=p) (q:=t) h.len.symm
 have hnn:∀x∈Ho p t,0≤x:=λx hx=>by
  obtain⟨i,hi⟩:=List.mem_iff_getElem?.1 hx
  rw[Ho,List.getElem?_zipWith] at hi
  split at hi
  ·rename_i a b ha hb
   have:=h.le i b a hb ha
   cases hi
   omega
  ·cases hi
 have h1:=Hr hnn
 have h2:=Hr ht0
 have h3:=hp.mv
 exact⟨⟨Vm hp.len hl,hnn,by omega⟩,hs,hl,ht0,by omega⟩
theorem U7 {W:Nat}{p t:List Int}(hp:p.length=W) (ht:t.length=W) (h:∀x∈t,x=0):Ho p t=p:=by
 apply List.ext_getElem?
 intro i
 rw[Ho,List.getElem?_zipWith]
 rcases Nat.lt_or_ge i W with hi|hi
 ·have h1:i<p.length:=by omega
  have h2:i<t.length:=by omega
  rw[List.getElem?_eq_getElem h1,List.getElem?_eq_getElem h2]
  have:=h _ (List.getElem_mem h2)
  simp [this]
 ·rw[List.getElem?_eq_none (show p.length≤i by omega)]
theorem SB:∀{t:List Int},(∀x∈t,0≤x)→t.sum≤0→∀x∈t,x=0:=λ{t} h hs x hx=>by
 have h1:=Gk h x hx
 have h2:=h x hx
 omega
theorem SI {N:Nat}(hN:1000000<N) {p:List Int}(hl:p.length≤1000) (h0:∀x∈p,0≤x) (hs:p.sum≤2305843009213693952):Db N p=some p.sum:=by
 unfold Db
 obtain⟨s,⟨i1,i2⟩,e⟩:=Da p.length (λn i s=>Fc N p (G3 N) n s i) (G3 N) (λk s=>s=(p.take k).sum∧0≤s) (λn k s hk=>by
  simp only[Fc];rw[Ey hk];rfl) (λn k s hi hk=>by
  obtain⟨i1,i2⟩:=hi
  have h1:=G9 h0 (k+1)
  have h2:=G9 h0 k
  have h3:=h0 _ (List.getElem_mem hk)
  rw[H2 hk] at h1
  simp only[Fc]
  rw[Ea hk,cond_true,BA hk,Option.bind_some,Rv N (by omega) (by omega) (by omega) (by omega),Option.bind_some,BE (by omega)]
  exact⟨_,⟨by rw[H2 hk,i1],by omega⟩,rfl⟩) N 0 0 ⟨rfl,Int.le_refl _⟩ (by omega) (Nat.zero_le _)
 rw[List.take_length] at i1
 subst i1
 exact e
theorem UP {N:Nat}(hN:1000000<N) {p q:List Int}(hp:p.length≤1000) (hl:q.length=p.length) (bp:∀x∈p, -2305843009213693952≤x∧x≤2305843009213693952) (bq:∀x∈q, -2305843009213693952≤x∧x≤2305843009213693952):Fl N p q=some (E0 p q):=by
 unfold Fl
 have hm:max (p.length:Int) (q.length:Int)=(p.length:Int):=by omega
 rw[hm,I5 hp _ (by decide),Rq]
 obtain⟨s,⟨i1,i2,i3⟩,e⟩:=Da q.length (λn i s=>Ej N q (GX N) n i s) (GX N) (λk s=>s.length=p.length∧(∀i,k≤i→s[i]? =p[i]?)∧∀i,i<k→s[i]? =(E0 p q)[i]?) (λn k s hk=>by
  simp only[Ej];rw[Ey hk];rfl) (λn k s hi hk=>by
  obtain⟨i1,i2,i3⟩:=hi
  simp only[Ej]
  have hks:k<s.length:=by omega
  have hkp:k<p.length:=by omega
  have hsk:s[k]=p[k]:=by
   have:=i2 k (Nat.le_refl _)
   rw[List.getElem?_eq_getElem hks,List.getElem?_eq_getElem hkp] at this
   exact Option.some.inj this
  have h1:=bp _ (List.getElem_mem hkp)
  have h2:=bq _ (List.getElem_mem hk)
  rw[Ea hk,cond_true,BA hk,Option.bind_some,BA hks,Option.bind_some,Option.bind_some,hsk,Rv N (by omega) (by omega) (by omega) (by omega),Option.bind_some,Option.bind_some,Option.bind_some,BE (by omega)]
  refine⟨_,⟨by rw[Kt];exact i1,λi hi=>by rw[Gy (by omega)];exact i2 i (by omega),λi hi=>?_⟩,rfl⟩
  by_cases hne:k=i
  ·subst hne
   rw[FQ hks,E0,List.getElem?_zipWith,List.getElem?_eq_getElem hkp,List.getElem?_eq_getElem hk]
  ·rw[Gy hne];exact i3 i (by omega)) N 0 p ⟨rfl,λi _=>rfl,λi hi=>by omega⟩ (by omega) (Nat.zero_le _)
 have:s=E0 p q:=List.ext_getElem? λi=>by
  rcases Nat.lt_or_ge i q.length with h|h
  ·exact i3 i h
  ·rw[List.getElem?_eq_none (by omega),List.getElem?_eq_none (by simp [E0];omega)]
 subst this
 exact e
theorem TP {N:Nat}(hN:1000000<N) {p t:List Int}(hp:p.length≤1000) (hl:t.length=p.length) (bp:∀x∈p, -2305843009213693952≤x∧x≤2305843009213693952) (bt:∀x∈t, -2305843009213693952≤x∧x≤2305843009213693952):Gn N p t=some (Ho p t):=by
 unfold Gn
 rw[I5 hp _ (by decide),Rq]
 obtain⟨s,⟨i1,i2,i3⟩,e⟩:=Da t.length (λn i s=>EX N t (GG N) n i s) (GG N) (λk s=>s.length=p.length∧(∀i,k≤i→s[i]? =p[i]?)∧∀i,i<k→s[i]? =(Ho p t)[i]?) (λn k s hk=>by
  simp only[EX];rw[Ey hk];rfl) (λn k s hi hk=>by
  obtain⟨i1,i2,i3⟩:=hi
  simp only[EX]
  have hks:k<s.length:=by omega
  have hkp:k<p.length:=by omega
  have hsk:s[k]=p[k]:=by
   have:=i2 k (Nat.le_refl _)
   rw[List.getElem?_eq_getElem hks,List.getElem?_eq_getElem hkp] at this
   exact Option.some.inj this
  have h1:=bp _ (List.getElem_mem hkp)
  have h2:=bt _ (List.getElem_mem hk)
  rw[Ea hk,cond_true,BA hk,Option.bind_some,BA hks,Option.bind_some,Option.bind_some,Option.bind_some,Option.bind_some,hsk,DB (n:=p[k]-t[k]) (by omega) (by omega),BE (by omega)]
  refine⟨_,⟨by rw[Kt];exact i1,λi hi=>by rw[Gy (by omega)];exact i2 i (by omega),λi hi=>?_⟩,rfl⟩
  by_cases hne:k=i
  ·subst hne
   rw[FQ hks,Ho,List.getElem?_zipWith,List.getElem?_eq_getElem hkp,List.getElem?_eq_getElem hk]
  ·rw[Gy hne];exact i3 i (by omega)) N 0 p ⟨rfl,λi _=>rfl,λi hi=>by omega⟩ (by omega) (Nat.zero_le _)
 have:s=Ho p t:=List.ext_getElem? λi=>by
  rcases Nat.lt_or_ge i t.length with h|h
  ·exact i3 i h
  ·rw[List.getElem?_eq_none (by omega),List.getElem?_eq_none (by simp [Ho];omega)]
 subst this
 exact e
theorem PX.big {W:Nat}{p:List Int}(h:PX W p):∀x∈p, -2305843009213693952≤x∧x≤2305843009213693952:=λx hx=>by
 have:=h.mem hx;omega
theorem PX.total {N W:Nat}(hN:1000000<N) (hW:W≤1000) {p:List Int}(h:PX W p):Db N p=some p.sum:=SI hN (by rw[h.len];exact hW) h.nn (by have:=h.mv;omega)
theorem PX.padd {N W:Nat}(hN:1000000<N) (hW:W≤1000) {p q:List Int}(hp:PX W p) (hq:PX W q):Fl N p q=some (E0 p q):=UP hN (by rw[hp.len];exact hW) (hq.len.trans hp.len.symm) hp.big hq.big
theorem PX.wo {N W:Nat}(hN:1000000<N) (hW:W≤1000) {p t:List Int}(hp:PX W p) (ht:PX W t):Gn N p t=some (Ho p t):=TP hN (by rw[hp.len];exact hW) (ht.len.trans hp.len.symm) hp.big ht.big
theorem La:∀{l:List Int}{i:Nat}(h:i<l.length) (x:Int),(l.set i x).sum=l.sum-l[i]+x
 |a::l,0,_,x=>by simp;omega
 |a::l,i+1,h,x=>by
  have:=La (l:=l) (i:=i) (by simpa using h) x
  simp only[List.set_cons_succ,List.sum_cons,List.getElem_cons_succ,this]
  omega
theorem YR {N W:Nat}(hN:1000000<N) (hW:W≤1000) {p:List Int}(hp:PX W p) (o n:Int):∃t,J1 N p o n=some (t,Ho p t)∧TO t p∧(t=List.replicate W 0∨∃i:Nat,o=(i:Int)∧i<W∧0<n∧0<p.getD i 0∧t=(List.replicate W 0).set i (min n (p.getD i 0)))∧((∃i:Nat,o=(i:Int)∧i<W∧0<n)→t=(List.replicate W 0).set o.toNat (min n (p.getD o.toNat 0))):=by
 have z0:TO (List.replicate W 0) p:=⟨by simp [hp.len],λi x y hx hy=>by
  rw[List.getElem?_replicate] at hx
  split at hx
  ·cases hx;exact⟨Int.le_refl _,hp.nn y (List.mem_of_getElem? hy)⟩
  ·cases hx⟩
 have j0:∀t,TO t p→Hg N p t=some (t,Ho p t):=λt ht=>by
  unfold Hg
  rw[hp.wo hN hW (ht.sub hp).2.2,Option.bind_some]
 have hr:List.replicate ((p.length:Int)).toNat (0:Int)=List.replicate W 0:=by rw[hp.len];rfl
 unfold J1 I6
 rw[I5 (by rw[hp.len];exact hW) _ (by decide),hr]
 by_cases hi:0≤o∧o<W
 ·obtain⟨i,rfl⟩:∃i:Nat,o=i:=⟨o.toNat,by omega⟩
  have hip:i<p.length:=by rw[hp.len];omega
  have hg:p.getD i 0=p[i]:=by simp [List.getD_eq_getElem?_getD,hip]
  have h0:=hp.nn _ (List.getElem_mem hip)
  rw[decide_eq_false (show ¬(i:Int)<0 by omega),decide_eq_false (show ¬(p.length:Int)≤(i:Int) by omega),Bool.or_self,cond_false,BA hip,Option.bind_some,Option.bind_some,decide_eq_false (show ¬p[i]<0 by omega),cond_false,Option.bind_some,Option.bind_some]
  rw[Int.toNat_natCast,hg]
  by_cases hm:0<min n p[i]
  ·rw[decide_eq_true hm,cond_true,BA (show i<(List.replicate W (0:Int)).length by simp;omega),Option.bind_some,Option.bind_some]
   have hv:TO ((List.replicate W (0:Int)).set i (min n p[i])) p:=⟨by simp [hp.len],λj x y hx hy=>by
    by_cases hij:i=j
    ·subst hij
     rw[List.getElem?_set_self (by simp;omega)] at hx
     rw[List.getElem?_eq_getElem hip] at hy
     cases hx;cases hy
     omega
    ·rw[List.getElem?_set_ne hij] at hx
     exact z0.le j x y hx hy⟩
   exact⟨_,j0 _ hv,hv,.inr ⟨i,rfl,by omega,by omega,by rw[hg];omega,by rw[hg];rfl⟩,λ_=>rfl⟩
  ·rw[decide_eq_false hm,cond_false]
   refine⟨_,j0 _ z0,z0,.inl rfl,λ⟨j,hj,hjW,hn⟩=>?_⟩
   have:min n p[i]=0:=by omega
   rw[this]
   apply List.ext_getElem?
   intro k
   by_cases hik:i=k
   ·subst hik;rw[List.getElem?_set_self (by simp;omega),List.getElem?_replicate,if_pos (by omega)]
   ·rw[List.getElem?_set_ne hik]
 ·have hc:(decide (o<0)||decide ((p.length:Int)≤o))=true:=by
   rw[hp.len]
   simp only[Bool.or_eq_true,decide_eq_true_eq]
   omega
  rw[hc,cond_true,Option.bind_some,cond_true,Option.bind_some,decide_eq_false (show ¬0<min n 0 by omega),cond_false]
  exact⟨_,j0 _ z0,z0,.inl rfl,λ⟨j,hj,hjW,_⟩=>absurd ⟨by omega,by omega⟩ hi⟩
end Go.Proofs.YtblcgjadhemlbaaGreat
