import Derived.Test.YtibidnaedddfdaaGreatCPureHStep
namespace Go.Proofs.YtibidnaedddfdaaGreat
open Go.RowKit
set_option linter.unusedVariables false
set_option linter.unusedSimpArgs false
def I2 (c:Be):Prop:=(0≤c.From∧c.From≤16777216)∧c.Rain.length≤24∧∀r∈c.Rain,∀s∈r,AB s.Lo∧AB s.Hi
theorem aJ {N:Nat}(kj:Option Bool) (r:List AD) (hr:r.length≤1048576) (hN:2000000<N):DQ N r kj N 0=some false∨((∀s∈r,AB s.Lo∧AB s.Hi)∧DQ N r kj N 0=kj):=by
 rcases EN r.length (DQ N r kj) kj (λi=>∀s,r[i]? =some s→AB s.Lo∧AB s.Hi) (λn k hk=>by
  simp only[DQ];rw[EA hk];rfl) (λn k hk=>by
  simp only[DQ,C9]
  rw[D9 hk,cond_true,Al hk]
  simp only[Option.bind_some,Ae (show k<4611686018427387904 by omega)]
  by_cases hc:(r[k]).Lo≤(r[k]).Hi∧0≤(r[k]).Lo∧(r[k]).Hi≤1125899906842624
  ·rw[decide_eq_true hc.1,decide_eq_false (show ¬(r[k]).Lo<0 by omega),decide_eq_false (show ¬1125899906842624<(r[k]).Hi by omega)]
   refine .inr ⟨λs hs=>?_,rfl⟩
   rw[List.getElem?_eq_getElem hk] at hs
   cases hs
   unfold AB
   omega
  ·have:((!decide ((r[k]).Lo≤(r[k]).Hi)||decide ((r[k]).Lo<0))||decide (1125899906842624<(r[k]).Hi))=true:=by
    simp only[Bool.or_eq_true,Bool.not_eq_true',decide_eq_false_iff_not,decide_eq_true_eq]
    omega
   rw[this]
   exact .inl rfl) N 0 (by omega) (Nat.zero_le _) with h|⟨h1,h2⟩
 ·exact .inl h
 ·refine .inr ⟨λs hs=>?_,h2⟩
  obtain⟨i,hi⟩:=List.mem_iff_getElem?.1 hs
  exact h1 i (Nat.zero_le _) (List.getElem?_eq_some_iff.1 hi).1 s hi
theorem Sg {N:Nat}(hN:2000000<N) (b:AJ) (hb:b.Places.length≤1048576) (c:Be):∃v,HL N b c=some v∧(v=true→I2 c):=by
 unfold HL
 cases hB:((((decide (c.Id<0)||decide (1073741824<c.Id))||decide (c.From<0))||decide (16777216<c.From))||decide (24<(c.Rain.length:Int)))
 ·simp only[Bool.or_eq_false_iff,decide_eq_false_iff_not] at hB
  rw[cond_false]
  rcases EN c.Rain.length (Cu N b c (Dr N)) (Dr N) (λi=>∀r,c.Rain[i]? =some r→∀s∈r,AB s.Lo∧AB s.Hi) (λn k hk=>by
   simp only[Cu];rw[EA hk];rfl) (λn k hk=>by
   simp only[Cu]
   rw[D9 hk,cond_true,Al hk,Option.bind_some]
   by_cases hl:(c.Rain[k]).length=b.Places.length
   ·rw[show decide (((c.Rain[k]).length:Int)≠(b.Places.length:Int))=false by simp [hl],cond_false]
    rcases aJ (N:=N) (FJ N (k:Int) (Cu N b c (Dr N) n)) (c.Rain[k]) (by omega) hN with h|⟨h1,h2⟩
    ·exact .inl h
    ·refine .inr ⟨λr hr=>?_,?_⟩
     ·rw[List.getElem?_eq_getElem hk] at hr
      cases hr
      exact h1
     ·rw[h2]
      unfold FJ
      rw[Ae (by omega)]
   ·rw[show decide (((c.Rain[k]).length:Int)≠(b.Places.length:Int))=true by simp;omega,cond_true]
    exact .inl rfl) N 0 (by omega) (Nat.zero_le _) with h|⟨h1,h2⟩
  ·exact⟨false,h,λh=>by cases h⟩
  ·refine⟨true,h2,λ_=>⟨by omega,by omega,λr hr=>?_⟩⟩
   obtain⟨i,hi⟩:=List.mem_iff_getElem?.1 hr
   exact h1 i (Nat.zero_le _) (List.getElem?_eq_some_iff.1 hi).1 r hi
 ·exact⟨false,rfl,λh=>by cases h⟩
theorem Zn {N:Nat}{c:Be}(hc:I2 c) {t:Int}(ht:0≤t∧t≤33554432) {P:Nat}(hP:P≤64):∃l,Ha N c t (P:Int)=some l∧∀s∈l,AB s.Lo∧AB s.Hi:=by
 obtain⟨h1,h2,h3⟩:=hc
 have hz:∀s∈List.replicate ((P:Nat):Int).toNat (⟨0,0⟩:AD),AB s.Lo∧AB s.Hi:=λs hs=>by
  rw[List.eq_of_mem_replicate hs]
  exact⟨⟨by decide,by decide⟩,⟨by decide,by decide⟩⟩
 unfold Ha HM
 by_cases h0:(P:Int)<1∨64<(P:Int)
 ·rw[show (decide ((P:Int)<1)||decide (64<(P:Int)))=true by simp only[Bool.or_eq_true,decide_eq_true_eq];exact h0,cond_true]
  exact⟨_,rfl,λs hs=>by cases hs⟩
 ·rw[show (decide ((P:Int)<1)||decide (64<(P:Int)))=false by simp only[Bool.or_eq_false_iff,decide_eq_false_iff_not];omega,cond_false,show I6 (P:Int) (P:Int) 16=true by simp [I6];omega]
  simp only[chk,cond_true]
  by_cases hf:t<c.From
  ·rw[decide_eq_true hf,cond_true]
   exact⟨_,rfl,hz⟩
  ·rw[decide_eq_false hf,cond_false,B1 (by omega) (by omega),decide_eq_true (show 0≤t-c.From by omega),Bool.true_and]
   by_cases hl:t-c.From<c.Rain.length
   ·obtain⟨r,er,er2⟩:=SV (l:=c.Rain) (i:=t-c.From) (by omega) hl
    rw[decide_eq_true hl,cond_true,er,Option.bind_some]
    refine⟨_,rfl,λs hs=>?_⟩
    unfold Vz at hs
    rcases List.mem_append.1 hs with hs|hs
    ·exact h3 r (List.mem_of_getElem? er2) s (List.mem_of_mem_take hs)
    ·exact hz s (List.mem_of_mem_drop hs)
   ·rw[decide_eq_false hl,cond_false]
    exact⟨_,rfl,hz⟩
structure YO (b:AJ) (h:BT) (m:Nat):Prop where
 hour:0≤h.Hour∧h.Hour≤16777216+(m:Int)
 vol:h.Vol.length=b.Places.length
 vols:∀v∈h.Vol,Ge v
 que:MB b.Places.length h.Hour h.Queue
 kn:IB b h.Links
 len:h.Queue.length≤1048576+m*6400
def Mo (ins:List BJ) (i:Nat):BJ:=(ins[i]?).getD ⟨[],[],[],[],[]⟩
def Nv (ins:List BJ):Prop:=∀x∈ins,x.Faults.length≤6∧x.Cmds.length≤6∧x.Takes.length≤6∧∀t∈x.Takes,AB t.Litres
theorem Nv.at_ {ins:List BJ}(h:Nv ins) (i:Nat):(Mo ins i).Faults.length≤6∧(Mo ins i).Cmds.length≤6∧(Mo ins i).Takes.length≤6∧∀t∈(Mo ins i).Takes,AB t.Litres:=by
 unfold Mo
 cases e:ins[i]? with
 |none=>exact⟨Nat.zero_le _,Nat.zero_le _,Nat.zero_le _,λt ht=>by cases ht⟩
 |some x=>exact h x (List.mem_of_getElem? e)
def Pr (N:Nat) (b:AJ) (ins:List BJ) (sure:List Bool) (c:Be) (i:Nat) (h:BT):BT×List AD:=match Ha N c h.Hour (b.Places.length:Int) with
 |some r=>match GY N b h (Mo ins i) sure r with
  |some x=>(x.1,x.2.1)
  |none=>(h,[])
 |none=>(h,[])
theorem Vi {N:Nat}(hN:18446744073709551616<N) {b:AJ}(hb:K7 N b) (hp6:b.Places.length≤6) {ins:List BJ}(hi:Nv ins) (sure:List Bool) {c:Be}(hc:I2 c) (i:Nat) {h:BT}{m:Nat}(hm:m≤50) (hh:YO b h m):
  ∃r x,Ha N c h.Hour (b.Places.length:Int)=some r∧GY N b h (Mo ins i) sure r=some x∧Pr N b ins sure c i h=(x.1,x.2.1)∧YO b x.1 (m+1):=by
 have ho:=hh.hour
 have hl:=hh.len
 have hpl:=hb.head.pl
 obtain⟨r,er,hr⟩:=Zn (N:=N) hc (t:=h.Hour) (by omega) hpl
 obtain⟨a1,a2,a3,a4⟩:=hi.at_ i
 obtain⟨x,ex,hS,hlen⟩:=VM hN hb hh.vol hh.vols (by omega) hh.que hh.kn (in_:=Mo ins i) (by omega) (by omega) (by omega) a4 (sure:=sure) hr (by omega)
 have hmul:b.Places.length*((Mo ins i).Takes.length+101)≤6*107:=Nat.mul_le_mul hp6 (by omega)
 refine⟨r,x,er,ex,by unfold Pr;rw[er];simp only;rw[ex],⟨?_,hS.vol,λv hv=>?_,by rw[hS.hour];exact hS.que,hS.lks,by omega⟩⟩
 ·rw[hS.hour]
  omega
 ·obtain⟨k,hk⟩:=List.mem_iff_getElem?.1 hv
  exact(hS.vols k v hk).1
def Vm (t:EM) (pk:List AD):Bool:=decide (0≤t.Place)&&decide (t.Place<(pk.length:Int))&&decide (t.Flood<((pk[t.Place.toNat]?).getD ⟨0,0⟩).Hi)
def JA (N:Nat) (b:AJ) (ins:List BJ) (sure:List Bool) (c:Be) (t:EM):Nat→Nat→BT→Int
 |0,_,_=> -1
 |n+1,i,h=>if Vm t (Pr N b ins sure c i h).2=true then (i:Int) else JA N b ins sure c t n (i+1) (Pr N b ins sure c i h).1
theorem LK (N:Nat) (b:AJ) (ins:List BJ) (sure:List Bool) (c:Be) (t:EM):∀n i h,JA N b ins sure c t n i h= -1∨((i:Int)≤JA N b ins sure c t n i h∧JA N b ins sure c t n i h<(i+n:Nat))
 |0,i,h=> .inl rfl
 |n+1,i,h=>by
  unfold JA
  split
  ·right;omega
  ·rcases LK N b ins sure c t n (i+1) (Pr N b ins sure c i h).1 with e|⟨e1,e2⟩
   ·exact .inl e
   ·exact .inr ⟨by omega,by omega⟩
theorem Qw (N:Nat) (b:AJ) (ins:List BJ) (sure:List Bool) (c:Be) (t:EM):∀m n i h,m≤n→JA N b ins sure c t m i h=if 0≤JA N b ins sure c t n i h∧JA N b ins sure c t n i h<(i+m:Nat) then JA N b ins sure c t n i h else -1
 |0,n,i,h,_=>by
  rcases LK N b ins sure c t n i h with e|⟨e1,e2⟩
  ·rw[e];rfl
  ·rw[if_neg (by omega)];rfl
 |m+1,0,i,h,hmn=>by omega
 |m+1,n+1,i,h,hmn=>by
  unfold JA
  split
  ·rw[if_pos (by omega)]
  ·rw[Qw N b ins sure c t m n (i+1) _ (by omega)]
   have e:((i+1+m:Nat):Int)=((i+(m+1):Nat):Int):=by omega
   rw[e]
theorem YS (N:Nat) (t:EM) (i:Int) (pk:List AD) (a d:Int):D7 N t i pk a d=some (cond (Vm t pk) (false,(i,i)) (true,(a,d))):=by
 unfold D7 Vm
 by_cases h:0≤t.Place∧t.Place<pk.length
 ·obtain⟨x,ex,ex2⟩:=SV (l:=pk) h.1 h.2
  rw[decide_eq_true h.1,decide_eq_true h.2,Bool.and_self,cond_true,ex,ex2]
  simp only[Option.bind_some,Bool.true_and,Option.getD_some]
  cases decide (t.Flood<x.Hi)<;>rfl
 ·have e:(decide (0≤t.Place)&&decide (t.Place<(pk.length:Int)))=false:=by
   rw[Bool.and_eq_false_iff]
   simp only[decide_eq_false_iff_not]
   omega
  rw[e]
  rfl
abbrev Zu (N:Nat) (t:EM):(Int×(List AD))→(Int×Int)→Option (Bool×(Int×Int)):=λxx ss=>D7 N t xx.1 xx.2 ss.1 ss.2
theorem RZ {N:Nat}(hN:18446744073709551616<N) {b:AJ}(hb:K7 N b) (hp6:b.Places.length≤6) {ins:List BJ}(hi:Nv ins) (hil:ins.length≤100) (sure:List Bool) {c:Be}(hc:I2 c) (t:EM) (L:Nat) (hL:L≤40) (s:Int×Int):
  ∀(n f i:Nat) (h:BT),i+n=L→n<f→YO b h i→B3 N (Zu N t) (L:Int) ins b sure c f (i:Int) h.Hour h.Vol h.Queue h.Links s=some (if JA N b ins sure c t n i h= -1 then (true,s) else (false,(JA N b ins sure c t n i h,JA N b ins sure c t n i h)))
 |0,f,i,h,e,hf,hh=>by
  obtain⟨g,rfl⟩:∃g,f=g+1:=⟨f-1,by omega⟩
  simp only[B3]
  rw[EA (by omega),cond_false]
  rfl
 |n+1,f,i,h,e,hf,hh=>by
  obtain⟨g,rfl⟩:∃g,f=g+1:=⟨f-1,by omega⟩
  obtain⟨r,x,er,ex,eh,hx⟩:=Vi hN hb hp6 hi sure hc i (by omega) hh
  have body:∀l70 l73 l76 l79 l82,(⟨l70,l73,l76,l79,l82⟩:BJ)=Mo ins i→EV N (Zu N t) b sure c (i:Int) h.Hour h.Vol h.Queue h.Links s (B3 N (Zu N t) (L:Int) ins b sure c g) l70 l73 l76 l79 l82=some (if JA N b ins sure c t (n+1) i h= -1 then (true,s) else (false,(JA N b ins sure c t (n+1) i h,JA N b ins sure c t (n+1) i h))):=by
   intro l70 l73 l76 l79 l82 hin
   unfold EV
   rw[er,Option.bind_some,hin,show(⟨h.Hour,h.Vol,h.Queue,h.Links⟩:BT)=h from rfl,ex,Option.bind_some]
   rw[show Zu N t ((i:Int),x.2.1) s=_ from YS N t _ _ _ _,Option.bind_some]
   unfold JA
   rw[eh]
   cases hfl:Vm t x.2.1
   ·simp only[cond_false,cond_true,Ae (show i<4611686018427387904 by omega),Bool.false_eq_true,if_false]
    exact RZ hN hb hp6 hi hil sure hc t L hL s n g (i+1) x.1 (by omega) (by omega) hx
   ·simp only[cond_true,cond_false,if_true]
    rw[if_neg (by omega)]
  simp only[B3]
  rw[D9 (show i<L by omega),cond_true]
  by_cases hlt:i<ins.length
  ·rw[D9 hlt,cond_true,Al hlt,Option.bind_some]
   exact body _ _ _ _ _ (by unfold Mo;rw[List.getElem?_eq_getElem hlt];rfl)
  ·rw[EA (by omega),cond_false]
   exact body _ _ _ _ _ (by unfold Mo;rw[List.getElem?_eq_none (by omega)];rfl)
def comb (a k:Int):Int:=if 0≤k∧(a<0∨k<a) then k else a
def IG (f:Be→Int) (a:Int) (l:List Be):Int:=l.foldl (λa c=>comb a (f c)) a
theorem Qz {a x y:Int}(ha: -1≤a) (hx: -1≤x):comb (comb a x) y=comb a (comb x y):=by unfold comb;(repeat' split)<;>omega
theorem Rz {x y:Int}(hx: -1≤x): -1≤comb x y:=by unfold comb;split<;>omega
theorem M8 (f:Be→Int):∀(l:List Be) (a:Int), -1≤a→ -1≤IG f a l
 |[],a,h=>h
 |c::l,a,h=>M8 f l _ (Rz h)
theorem LO (f:Be→Int) (hf:∀c, -1≤f c):∀(l:List Be) (a:Int), -1≤a→IG f a l=comb a (IG f (-1) l)
 |[],a,ha=>by unfold IG comb;simp
 |c::l,a,ha=>by
  have e1:IG f a (c::l)=IG f (comb a (f c)) l:=rfl
  have e2:IG f (-1) (c::l)=IG f (comb (-1) (f c)) l:=rfl
  have e3:comb (-1) (f c)=f c:=by have:=hf c;unfold comb;split<;>omega
  rw[e1,e2,e3,LO f hf l _ (Rz ha),LO f hf l _ (hf c),Qz ha (hf c)]
theorem VR {N:Nat}(hN:18446744073709551616<N) {b:AJ}(hb:K7 N b) (hp6:b.Places.length≤6) {ins:List BJ}(hi:Nv ins) (hil:ins.length≤100) (sure:List Bool) (t:EM) {h:BT}(hh:YO b h 0) (casts:List Be) (hc:∀c∈casts,I2 c) (hcl:casts.length≤100) (n:Nat) (hn:n≤40):
  CJ N b h ins sure t casts (Cz N) N 0 (n:Int) (-1)=some ⟨IG (λc=>JA N b ins sure c t n 0 h) (-1) casts,false⟩:=by
 obtain⟨⟨L,cr⟩,⟨i1,i2⟩,e⟩:=F4 casts.length (λf k (s:Int×Int)=>CJ N b h ins sure t casts (Cz N) f k s.1 s.2) (λs=>Cz N s.2) (λk s=>s.2=IG (λc=>JA N b ins sure c t n 0 h) (-1) (casts.take k)∧((s.1=n∧s.2= -1)∨(s.1=s.2∧0≤s.2∧s.2<n))) (λf k s hk=>by
  simp only[CJ];rw[EA hk];rfl) (λf k s hi2 hk=>by
  obtain⟨L,cr⟩:=s
  obtain⟨i1,i2⟩:=hi2
  have j1:cr=IG (λc=>JA N b ins sure c t n 0 h) (-1) (casts.take k):=i1
  have i2:(L=n∧cr= -1)∨(L=cr∧0≤cr∧cr<n):=i2
  simp only[CJ]
  rw[D9 hk,cond_true,Al hk]
  simp only[Option.bind_some,Hk,Fv,Ae (show k<4611686018427387904 by omega)]
  have hck:=hc _ (List.getElem_mem hk)
  obtain⟨M,hM,hMn⟩:∃M:Nat,L=M∧M≤n:=⟨L.toNat,by omega,by omega⟩
  subst hM
  have hp:=RZ hN hb hp6 hi hil sure hck t M (by omega) ((M:Int),cr) M N 0 h (by omega) (by omega) hh
  have hp:Gx N h (M:Int) ins b sure casts[k] (λxx ss=>D7 N t xx.1 xx.2 ss.1 ss.2) ((M:Int),cr)=_:=hp
  rw[hp,Option.bind_some]
  have hle:=Qw N b ins sure casts[k] t M n 0 h hMn
  have hin:=LK N b ins sure casts[k] t n 0 h
  have hin2:=LK N b ins sure casts[k] t M 0 h
  have tk:IG (λc=>JA N b ins sure c t n 0 h) (-1) (casts.take (k+1))=comb cr (JA N b ins sure casts[k] t n 0 h):=by
   rw[List.take_succ_eq_append_getElem hk,j1]
   unfold IG
   rw[List.foldl_append]
   rfl
  by_cases hz:JA N b ins sure casts[k] t M 0 h= -1
  ·rw[if_pos hz]
   refine⟨((M:Int),cr),⟨?_,i2⟩,rfl⟩
   rw[tk]
   show cr=comb cr _
   rw[hz] at hle
   unfold comb
   split at hle
   ·omega
   ·rw[if_neg (by omega)]
  ·rw[if_neg hz]
   refine⟨(JA N b ins sure casts[k] t M 0 h,JA N b ins sure casts[k] t M 0 h),⟨?_,.inr ⟨rfl,?_⟩⟩,rfl⟩
   ·rw[tk]
    show JA N b ins sure casts[k] t M 0 h=comb cr _
    split at hle
    ·rw[hle]
     unfold comb
     rw[if_pos (by omega)]
    ·exact absurd hle hz
   ·show 0≤JA N b ins sure casts[k] t M 0 h∧JA N b ins sure casts[k] t M 0 h<n
    omega) N 0 ((n:Int), -1) ⟨rfl,.inl ⟨rfl,rfl⟩⟩ (by omega) (Nat.zero_le _)
 rw[List.take_length] at i1
 have i1:cr=_:=i1
 have e:CJ N b h ins sure t casts (Cz N) N 0 (n:Int) (-1)=Cz N cr:=e
 rw[e,i1]
 rfl
end Go.Proofs.YtibidnaedddfdaaGreat
