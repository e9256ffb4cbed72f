import Derived.Test.YtblcgjadhemlbaaGreatQPureSt
namespace Go.Proofs.YtblcgjadhemlbaaGreat
open Go.RowKit
set_option linter.unusedVariables false
set_option linter.unusedSimpArgs false
theorem NC {N:Nat}(hN:18446744073709551616<N) (v n d:Int):Df (GI N v n d):=by
 unfold GI
 rw[M8 hN,Option.bind_some]
 exact Df.cond (λ_=>Df.mk _) λ_=>Df.mk _
theorem RK {N:Nat}(hN:18446744073709551616<N) (v n d:Int):Df (It N v n d):=by
 unfold It
 rw[M8 hN,Option.bind_some]
 exact Df.cond (λ_=>Df.mk _) λ_=>Df.mk _
theorem bZ {N:Nat}(hN:18446744073709551616<N) (c:List BI) (x:Int):Df (KF N c x):=by
 unfold KF
 obtain⟨v,hv,k⟩:=H8 (N:=N) (by omega) c
 rw[hv,Option.bind_some]
 cases v
 ·exact Df.mk _
 ·have h:=k rfl
  obtain⟨y,hy⟩:=Oe hN h.1 h.2.1 x
  exact⟨y.1,by rw[hy];rfl⟩
theorem TA {N:Nat}(hN:18446744073709551616<N) (l:Au) (g:Ak) (fr to:Int):Df (KE N l g fr to):=by
 have head:Df (Jg N l fr to):=by
  unfold Jg
  refine Df.cond (λ_=>Df.mk _) λ_=>?_
  refine(NC hN _ _ _).bind λv _=>(Of N _ _).bind λu _=>Df.mk _
 have asks:Df (Jh N l g.Pos g.Open l.Rate fr to):=by
  unfold Jh I4 I5 I6 I7 HJ HK
  have j1:Df (Option.bind (FQ N fr l.Crest) λy95=>Option.bind (GI N (max 0 y95) l.Num l.Den) λy104=>some y104):=(Of N _ _).bind λu _=>(NC hN _ _ _).bind λv _=>Df.mk _
  refine Df.cond (λ_=>?_) λ_=>Df.cond (λ_=>(NC hN _ _ _).bind λv _=>Df.mk _) λ_=>Df.cond (λ_=>Df.cond (λ_=>(NC hN _ _ _).bind λv _=>Df.mk _) λ_=>Df.mk _) λ_=>Df.cond (λ_=>Df.cond (λ_=>Df.mk _) λ_=>j1) λ_=>Df.cond (λ_=>j1) λ_=>Df.mk _
  exact head.bind λa _=>(bZ hN _ _).bind λb _=>(NC hN _ _ _).bind λc _=>(PD N _ _).bind λd _=>Df.mk _
 unfold KE
 exact asks.bind λv _=>Df.mk _
theorem So {N:Nat}(hN:18446744073709551616<N) (l:Au) (fr to:Int):Df (JK N l fr to):=by
 unfold JK
 exact Df.cond (λ_=>Df.mk _) λ_=>(RK hN _ _ _).bind λa _=>(RK hN _ _ _).bind λb _=>Df.mk _
def SU (W:Nat) (f:List Int→Option (List Int×List Int)):Prop:=∀x,x.length=W→∃r,f x=some r∧r.1.length=W∧r.2.length=W
theorem M6 {N:Nat}(hN:18446744073709551616<N) {W:Nat}(hW:W≤1000) (n:Int):SU W (λx=>AY N n x):=λx hx=>by
 obtain⟨r,e,h1,h2⟩:=US hN (p:=x) (by omega) n
 show ∃r,AY N n x=some r∧_
 unfold AY
 rw[e,Option.bind_some]
 exact⟨_,rfl,h1.trans hx,h2.trans hx⟩
theorem Wb {N:Nat}(hN:1000000<N) {W:Nat}(hW:W≤1000) (t:Hw):SU W (λx=>DL N t x):=λx hx=>by
 obtain⟨r,e,h1,h2⟩:=VA hN (p:=x) (by omega) t.Owner t.Litres
 show ∃r,DL N t x=some r∧_
 unfold DL
 rw[e,Option.bind_some]
 exact⟨_,rfl,h1.trans hx,h2.trans hx⟩
def V6 (W:Nat) (l:List AM):Prop:=∀e∈l,SU W e.take
theorem V6.snoc {W:Nat}{l:List AM}(h:V6 W l) {e:AM}(he:SU W e.take):V6 W (l++[e]):=λx hx=>by
 rcases List.mem_append.1 hx with hx|hx
 ·exact h x hx
 ·rw[List.mem_singleton.1 hx];exact he
theorem UR {N:Nat}(hN:18446744073709551616<N) {w:Ai}{W:Nat}(hW:W≤1000) (ht:w.in_.Takes.length≤1000) {p:Nat}(hp:p<w.b.Places.length):∃l,Gr N w (p:Int)=some l∧l.length≤w.in_.Takes.length∧V6 W l:=by
 unfold Gr
 obtain⟨l,⟨i1,i2⟩,e⟩:=E5 w.in_.Takes.length (λn i l=>B3 N w (p:Int) (Cy N) n l i) (Cy N) (λk l=>l.length≤k∧V6 W l) (λn k l hk=>by
  simp only[B3];rw[E7 hk];rfl) (λn k l hi hk=>by
  obtain⟨i1,i2⟩:=hi
  simp only[B3,Eq]
  rw[E6 hk,cond_true,BQ hk,BH (by omega)]
  simp only[Option.bind_some,Kp,Ee]
  generalize w.in_.Takes[k]=x
  have skip:∃s',(s'.length≤k+1∧V6 W s')∧B3 N w (p:Int) (Cy N) n l ((k+1:Nat):Int)=B3 N w (p:Int) (Cy N) n s' ((k+1:Nat):Int):=⟨l,⟨by omega,i2⟩,rfl⟩
  generalize (cond (decide (x.Place≠(p:Int))) true (!(decide (0≤x.Owner)&&decide (x.Owner<(w.b.Owners.length:Int))))||decide (x.Litres≤0))=c
  cases c
  ·rw[cond_false]
   have hb:∃c,(cond (decide (x.To≠ -1)) (Option.bind (cond (!(decide (0≤x.To)&&decide (x.To<(w.b.Places.length:Int)))) (some true) (Option.bind (ix w.b.Places x.To) λx64=>Option.bind (ix w.b.Places (p:Int)) λx71=>some (decide (x64.Office≠x71.Office)))) λb61=>some b61) (some false))=some c:=by
    cases decide (x.To≠ -1)
    ·exact⟨_,rfl⟩
    ·cases hr:(decide (0≤x.To)&&decide (x.To<(w.b.Places.length:Int)))
     ·exact⟨_,rfl⟩
     ·obtain⟨r1,r2⟩:=O0.1 hr
      obtain⟨y,hy⟩:=Df.ix (l:=w.b.Places) r1 (by omega)
      rw[hy,BQ hp]
      exact⟨_,rfl⟩
   obtain⟨c,hc⟩:=hb
   rw[hc,Option.bind_some]
   cases c
   ·rw[cond_false,JI (by omega)]
    exact⟨_,⟨by simp;omega,i2.snoc (Wb (by omega) hW x)⟩,rfl⟩
   ·exact skip
  ·exact skip) N 0 [] ⟨Nat.le_refl _,λe he=>by cases he⟩ (by omega) (Nat.zero_le _)
 exact⟨l,e,i1,i2⟩
theorem VC {N:Nat}(hN:18446744073709551616<N) {w:Ai}{W:Nat}(hW:W≤1000) (hL:w.b.Links.length≤1000) (hlk:∀l∈w.b.Links,Ip w.b l) (hg:w.s.Gates.length=w.b.Links.length) (hpk:w.peaks.length=w.b.Places.length) {p:Nat}(hp:p<w.b.Places.length):∃l,Gv N w (p:Int)=some l∧l.length≤w.b.Links.length∧V6 W l:=by
 unfold Gv
 obtain⟨l,⟨i1,i2⟩,e⟩:=E5 w.b.Links.length (λn i l=>Ba N w (p:Int) (Ce N) n l i) (Ce N) (λk l=>l.length≤k∧V6 W l) (λn k l hk=>by
  simp only[Ba];rw[E7 hk];rfl) (λn k l hi hk=>by
  obtain⟨i1,i2⟩:=hi
  have ok:=hlk _ (List.getElem_mem hk)
  have hgk:k<w.s.Gates.length:=by omega
  have hpp:p<w.peaks.length:=by omega
  simp only[Ba,Fj,C1,Fc]
  rw[E6 hk,cond_true,BQ hk,Option.bind_some,BH (by omega)]
  simp only[BQ hgk,BQ hpp,Option.bind_some]
  generalize w.b.Links[k]=x at ok
  have add1:∀(n':Int) (to dl wy:Int),∃s',(s'.length≤k+1∧V6 W s')∧chk (J8 (l.length+([(⟨to,dl,wy,(λx=>AY N n' x)⟩:AM)]:List AM).length) 32) (Ba N w (p:Int) (Ce N) n (l++([(⟨to,dl,wy,(λx=>AY N n' x)⟩:AM)]:List AM)) ((k+1:Nat):Int))=Ba N w (p:Int) (Ce N) n s' ((k+1:Nat):Int):=λn' to dl wy=>by
   rw[JI (by simp;omega)]
   exact⟨_,⟨by simp;omega,i2.snoc (M6 hN hW n')⟩,rfl⟩
  have pkI:∀i:Int,0≤i→i<w.b.Places.length→∃y,ix w.peaks i=some y:=λi h0 h1=>Df.ix h0 (by omega)
  obtain⟨f0,hf0⟩:=pkI x.From ok.fr.1 ok.fr.2
  cases hA:(decide (x.From=(p:Int))&&decide (x.Kind≠4))
  ·rw[cond_false]
   cases hB:decide (x.From=(p:Int))
   ·rw[cond_false]
    cases hC:(decide (x.To=(p:Int))&&decide (x.Kind=4))
    ·exact⟨l,⟨by omega,i2⟩,rfl⟩
    ·obtain⟨a,ha⟩:=So hN x f0 w.peaks[p]
     obtain⟨b,hb⟩:=Of N 0 a
     rw[cond_true]
     simp only[hf0,Option.bind_some]
     rw[ha,Option.bind_some,hb,Option.bind_some]
     exact add1 _ _ _ _
   ·have hB:=of_decide_eq_true hB
    have h4:x.Kind=4:=by
     rw[decide_eq_true hB,Bool.true_and] at hA
     simpa using hA
    obtain⟨_,_,_,_,_,hto⟩:=ok.seep h4
    have hto:=ok.to.resolve_left hto
    obtain⟨t0,ht0⟩:=pkI x.To hto.1 hto.2
    obtain⟨a,ha⟩:=So hN x w.peaks[p] t0
    rw[cond_true]
    simp only[ht0,Option.bind_some]
    rw[ha,Option.bind_some]
    exact add1 _ _ _ _
  ·rw[cond_true]
   cases hT:decide (x.To≠ -1)
   ·obtain⟨a,ha⟩:=TA hN x w.s.Gates[k] w.peaks[p] 0
    rw[cond_false,ha,Option.bind_some]
    exact add1 _ _ _ _
   ·have hT:=of_decide_eq_true hT
    have hto:=ok.to.resolve_left hT
    obtain⟨t0,ht0⟩:=pkI x.To hto.1 hto.2
    obtain⟨a,ha⟩:=TA hN x w.s.Gates[k] w.peaks[p] t0
    rw[cond_true]
    simp only[ht0,Option.bind_some]
    rw[ha,Option.bind_some]
    exact add1 _ _ _ _) N 0 [] ⟨Nat.le_refl _,λe he=>by cases he⟩ (by omega) (Nat.zero_le _)
 exact⟨l,e,i1,i2⟩
theorem T4 {N:Nat}(hN:1000000<N) (a b:List AM) (ha:a.length≤100000) (hb:b.length≤100000):Bj N [a,b]=some (a++b):=by
 obtain⟨n,rfl⟩:∃n,N=n+3:=⟨N-3,by omega⟩
 have e1:BD ((a.length:Int)+(b.length:Int))=((a.length+b.length:Nat):Int):=by rw[GF (by omega) (by omega)];rfl
 have e0:BD (0+(a.length:Int))=((a.length:Nat):Int):=by rw[GF (by omega) (by omega)];omega
 have grow:Bo (n+3) ((a.length+b.length:Nat):Int)=some []:=by
  unfold Bo Be
  rw[decide_eq_false (show ¬((a.length+b.length:Nat):Int)<0 by omega),cond_false,GF (n:=(0:Int)-0) (by decide) (by decide),GF (n:=((a.length+b.length:Nat):Int)-(0-0)) (by omega) (by omega)]
  cases hc:decide (0<((a.length+b.length:Nat):Int)-(0-0))
  ·rfl
  ·rw[cond_true,JI (by omega)]
   rfl
 unfold Bj
 simp only[BO]
 rw[show decide ((0:Int)<(([a,b]:List (List AM)).length:Int))=true by simp,cond_true,show Go.Proofs.YtblcgjadhemlbaaGreat.ix [a,b] 0=some a from rfl,Option.bind_some,e0,decide_eq_false (show ¬((a.length:Nat):Int)<0 by omega),cond_false,show BD (0+1)=1 from rfl,show decide ((1:Int)<(([a,b]:List (List AM)).length:Int))=true by simp,cond_true,show Go.Proofs.YtblcgjadhemlbaaGreat.ix [a,b] 1=some b from rfl,Option.bind_some,e1,decide_eq_false (show ¬((a.length+b.length:Nat):Int)<0 by omega),cond_false,show BD (1+1)=2 from rfl,show decide ((2:Int)<(([a,b]:List (List AM)).length:Int))=false by simp,cond_false]
 unfold Bc
 rw[grow,Option.bind_some]
 simp only[BM]
 rw[show decide ((0:Int)<(([a,b]:List (List AM)).length:Int))=true by simp,cond_true,show Go.Proofs.YtblcgjadhemlbaaGreat.ix [a,b] 0=some a from rfl,Option.bind_some,JI (by simp;omega),show BD (0+1)=1 from rfl,show decide ((1:Int)<(([a,b]:List (List AM)).length:Int))=true by simp,cond_true,show Go.Proofs.YtblcgjadhemlbaaGreat.ix [a,b] 1=some b from rfl,Option.bind_some,JI (by simp;omega),show BD (1+1)=2 from rfl,show decide ((2:Int)<(([a,b]:List (List AM)).length:Int))=false by simp,cond_false]
 rfl
theorem WQ {N:Nat}(hN:1000000<N) (t to:Int) {p:List Int}(hp:p.length≤1000):∃r,I2 N t to p=some r∧r.length≤1:=by
 have hc:Df (Cs N p (λx=>Fl N x)):=by
  unfold Cs FG
  refine Df.bind ?_ λv _=>Df.mk _
  have:∀(n k:Nat),p.length<n+k→k≤p.length→Df (CP N p (λx=>Fl N x) (DX N) n (k:Int)):=by
   intro n
   induction n with
   |zero=>intro k h1 h2;omega
   |succ n ih=>
    intro k h1 h2
    simp only[CP,Fl]
    rcases Nat.lt_or_ge k p.length with h|h
    ·rw[E6 h,cond_true,BQ h,BH (by omega)]
     simp only[Option.bind_some]
     exact Df.cond (λ_=>Df.mk _) λ_=>ih (k+1) (by omega) (by omega)
    ·rw[E7 h];exact Df.mk _
  exact this N 0 (by omega) (Nat.zero_le _)
 obtain⟨c,hc⟩:=hc
 have hd:∃c,cond (decide (to<0)) (some true) (Option.bind (Cs N p (λx=>Fl N x)) λy4=>some (!y4))=some c:=by
  rw[hc]
  cases decide (to<0)<;>exact⟨_,rfl⟩
 obtain⟨d,hd⟩:=hd
 unfold I2
 rw[hd,Option.bind_some]
 cases d
 ·rw[cond_false,J3 N (by omega),Option.bind_some,JI (by simp)]
  exact⟨_,rfl,by simp⟩
 ·exact⟨_,rfl,by simp⟩
theorem QQ {N:Nat}(hN:1000000<N) {w:Ai}{P W:Nat}(hW:W≤1000) (ho:KO P W w.s.Own) {p:Nat}(hp:p<P) {e:AM}(he:SU W e.take) (hout:w.s.Out.length=W) (hm:w.moves.length≤1000000) (hs:w.sent.length≤1000000):
  ∃r,FX N w (p:Int) e=some r∧KO P W r.1∧r.2.1.length=W∧r.2.2.1.length≤w.moves.length+1∧r.2.2.2.length≤w.sent.length+1:=by
 unfold FX
 obtain⟨x,hx,hxl⟩:=ho.ix hp
 obtain⟨y,hy,hy1,hy2⟩:=he x hxl
 obtain⟨t,ht⟩:=IR hN (p:=y.1) (by omega)
 simp only[hx,Option.bind_some]
 rw[hy,Option.bind_some,ht,Option.bind_some]
 cases decide (t≤0)
 ·rw[cond_false,JI (by simp;omega)]
  cases decide (e.to_= -1)
  ·obtain⟨l,hl,hll⟩:=WQ hN (BD (BD (w.s.Hour+1)+e.delay)) e.to_ (p:=y.1) (by omega)
   rw[cond_false,hl,Option.bind_some,JI (by omega)]
   exact⟨_,rfl,ho.upd _ hy2,hout,by simp,by simp;omega⟩
  ·obtain⟨a,ha,hal⟩:=Ou hN (p:=w.s.Out) (q:=y.1) (by omega) (by omega)
   rw[cond_true,ha,Option.bind_some]
   exact⟨_,rfl,ho.upd _ hy2,by show a.length=W;rw[hal,hout,hy1,Nat.max_self],by simp,by show w.sent.length≤_;omega⟩
 ·exact⟨_,rfl,ho.upd _ hy2,hout,by show w.moves.length≤_;omega,by show w.sent.length≤_;omega⟩
theorem Ui {N:Nat}(hN:18446744073709551616<N) (pl:Dh) (v m:Int):Df (IW N pl v m):=by
 unfold IW HG
 rw[M8 hN,Option.bind_some]
 exact Df.cond (λ_=>Df.mk _) λ_=>Df.cond (λ_=>Df.cond (λ_=>Df.mk _) λ_=>Df.mk _) λ_=>Df.cond (λ_=>Df.mk _) λ_=>Df.mk _
structure T7 (P W:Nat) (o:List (List Int)) (out:List Int) (ms:List Av) (sn:List Az) (M:Nat):Prop where
 own:KO P W o
 out:out.length=W
 mv:ms.length≤M
 sn:sn.length≤M
theorem RY {N:Nat}(hN:1000000<N) {w:Ai}{W:Nat}(hW:W≤1000) {p:Nat}(hp:p<w.b.Places.length) (pl:Dh) {o:List (List Int)}{out:List Int}{ms:List Av}{sn:List Az}{rem:List Int}{M:Nat}(hM:M≤999999) (hr:rem.length=w.b.Places.length) (h:T7 w.b.Places.length W o out ms sn M) (hs:∀n,SU W (λx=>AY N n x)):
  ∃r,C0 N w (p:Int) pl o out ms sn rem=some r∧r.2.1.length=w.b.Places.length∧T7 w.b.Places.length W r.1 r.2.2.1 r.2.2.2.1 r.2.2.2.2 (M+1):=by
 have h1:=h.mv
 have h2:=h.sn
 unfold C0
 obtain⟨x,hx,hxl⟩:=h.own.ix hp
 obtain⟨t,ht⟩:=IR hN (p:=x) (by omega)
 rw[hx,Option.bind_some,Option.bind_some,ht,Option.bind_some]
 cases decide (0<BD (t-pl.Cap))
 ·exact⟨_,rfl,hr,⟨h.own,h.out,by show ms.length≤_;omega,by show sn.length≤_;omega⟩⟩
 ·rw[cond_true,Fc,Option.bind_some]
  obtain⟨r,hr2,r1,r2,r3,r4⟩:=QQ hN (w:=(⟨w.b,w.in_,(⟨w.s.Hour,o,rem,w.s.Queue,w.s.Gates,w.s.In,out⟩:Al),ms,w.peaks,sn⟩:Ai)) hW h.own hp (e:=⟨pl.Down,pl.Delay, -2,λx=>AY N (BD (t-pl.Cap)) x⟩) (hs _) h.out (by show ms.length≤_;omega) (by show sn.length≤_;omega)
  rw[hr2,Option.bind_some]
  exact⟨_,rfl,hr,⟨r1,r2,by show r.2.2.1.length≤_;exact Nat.le_trans r3 (Nat.succ_le_succ h1),by show r.2.2.2.length≤_;exact Nat.le_trans r4 (Nat.succ_le_succ h2)⟩⟩
theorem RX {N:Nat}(hN:1000000<N) {w:Ai}{W:Nat}(hW:W≤1000) {p:Nat}(hp:p<w.b.Places.length) (pl:Dh) {o:List (List Int)}{out:List Int}{ms:List Av}{sn:List Az}{rem:List Int}(y:Int×Int) {M:Nat}(hM:M≤999998) (hr:rem.length=w.b.Places.length) (h:T7 w.b.Places.length W o out ms sn M) (hs:∀n,SU W (λx=>AY N n x)):
  ∃r,Er N w (p:Int) pl o out ms sn y (C0 N w (p:Int) pl) rem=some r∧r.2.1.length=w.b.Places.length∧T7 w.b.Places.length W r.1 r.2.2.1 r.2.2.2.1 r.2.2.2.2 (M+1+1):=by
 have h1:=h.mv
 have h2:=h.sn
 unfold Er
 rw[Fc,Option.bind_some]
 obtain⟨r,hr2,r1,r2,r3,r4⟩:=QQ hN (w:=(⟨w.b,w.in_,(⟨w.s.Hour,o,rem,w.s.Queue,w.s.Gates,w.s.In,out⟩:Al),ms,w.peaks,sn⟩:Ai)) hW h.own hp (e:=⟨pl.Down,pl.Delay, -1,λx=>AY N y.1 x⟩) (hs _) h.out (by show ms.length≤_;omega) (by show sn.length≤_;omega)
 rw[hr2,Option.bind_some]
 exact RY hN hW hp pl (by omega) hr ⟨r1,r2,Nat.le_trans r3 (Nat.succ_le_succ h1),Nat.le_trans r4 (Nat.succ_le_succ h2)⟩ hs
theorem T7.le {P W:Nat}{o:List (List Int)}{out:List Int}{ms:List Av}{sn:List Az}{M M':Nat}(h:T7 P W o out ms sn M) (hM:M≤M'):T7 P W o out ms sn M':=⟨h.own,h.out,Nat.le_trans h.mv hM,Nat.le_trans h.sn hM⟩
theorem SK {N:Nat}(hN:1000000<N) {w:Ai}{W M:Nat}(hW:W≤1000) {p:Nat}(hp:p<w.b.Places.length) (h:T7 w.b.Places.length W w.s.Own w.s.Out w.moves w.sent M) (hM:M≤900000) (ex:List AM) (hex:V6 W ex) (hel:ex.length≤2000) (kj:List (List Int)→List Int→List Av→List Az→Option (List (List Int)×List Int×List Int×List Av×List Az)):
  ∃o out ms sn,T7 w.b.Places.length W o out ms sn (M+ex.length)∧Cz N w (p:Int) ex kj N 0 w.s.Own w.s.Out w.moves w.sent=kj o out ms sn:=by
 obtain⟨⟨o,out,ms,sn⟩,i,e⟩:=E5 ex.length (λn i (s:List (List Int)×List Int×List Av×List Az)=>Cz N w (p:Int) ex kj n i s.1 s.2.1 s.2.2.1 s.2.2.2) (λs=>kj s.1 s.2.1 s.2.2.1 s.2.2.2) (λk s=>T7 w.b.Places.length W s.1 s.2.1 s.2.2.1 s.2.2.2 (M+k)) (λn k s hk=>by
  simp only[Cz];rw[E7 hk];rfl) (λn k s hi hk=>by
  obtain⟨o,out,ms,sn⟩:=s
  have h1:=hi.mv
  have h2:=hi.sn
  simp only at h1 h2
  simp only[Cz]
  rw[E6 hk,cond_true,BH (by omega),BQ hk,Option.bind_some,Option.bind_some]
  obtain⟨r,hr,r1,r2,r3,r4⟩:=QQ hN (w:=(⟨w.b,w.in_,(⟨w.s.Hour,o,w.s.Rem,w.s.Queue,w.s.Gates,w.s.In,out⟩:Al),ms,w.peaks,sn⟩:Ai)) hW hi.own hp (hex _ (List.getElem_mem hk)) hi.out (by show ms.length≤_;omega) (by show sn.length≤_;omega)
  rw[hr,Option.bind_some]
  exact⟨(_,_,_,_),⟨r1,r2,Nat.le_trans r3 (Nat.succ_le_succ h1),Nat.le_trans r4 (Nat.succ_le_succ h2)⟩,rfl⟩) N 0 (w.s.Own,w.s.Out,w.moves,w.sent) h (by omega) (Nat.zero_le _)
 exact⟨o,out,ms,sn,i,e⟩
theorem Uu {N:Nat}(hN:18446744073709551616<N) {w:Ai}{W M:Nat}(hW:W≤1000) (hL:w.b.Links.length≤900) (ht:w.in_.Takes.length≤1000) (hlk:∀l∈w.b.Links,Ip w.b l) (hg:w.s.Gates.length=w.b.Links.length) (hpk:w.peaks.length=w.b.Places.length) (hrem:w.s.Rem.length=w.b.Places.length) {p:Nat}(hp:p<w.b.Places.length) (h:T7 w.b.Places.length W w.s.Own w.s.Out w.moves w.sent M) (hM:M≤900000):
  ∃r,Gu N w (p:Int)=some r∧r.2.1.length=w.b.Places.length∧T7 w.b.Places.length W r.1 r.2.2.1 r.2.2.2.1 r.2.2.2.2 (M+(w.in_.Takes.length+w.b.Links.length+2)):=by
 have hN':1000000<N:=by omega
 obtain⟨l1,a1,a2,a3⟩:=UR hN hW ht hp
 obtain⟨l2,b1,b2,b3⟩:=VC hN hW (by omega) hlk hg hpk hp
 have hex:V6 W (l1++l2):=λe he=>(List.mem_append.1 he).elim (a3 e) (b3 e)
 have hel:(l1++l2).length≤w.in_.Takes.length+w.b.Links.length:=by rw[List.length_append];omega
 unfold Gu
 rw[BQ hp,Option.bind_some,a1,Option.bind_some,b1,Option.bind_some,T4 hN' _ _ (by omega) (by omega),Option.bind_some]
 obtain⟨o,out,ms,sn,i,e⟩:=SK hN' hW hp h hM (l1++l2) hex (by omega) (Es N w (p:Int) w.b.Places[p])
 rw[e]
 unfold Es
 cases decide ((w.b.Places[p]).Den≠0)
 ·obtain⟨r,hr,r1,r2⟩:=RY hN' hW hp w.b.Places[p] (by omega) hrem i (M6 hN hW)
  exact⟨r,hr,r1,r2.le (by omega)⟩
 ·have hpk':p<w.peaks.length:=by omega
  have hrm':p<w.s.Rem.length:=by omega
  have hur:(upd w.s.Rem (p:Int) 0).length=w.b.Places.length:=by rw[K0];exact hrem
  obtain⟨x,hx,hxl⟩:=i.own.ix hp
  obtain⟨t,ht⟩:=IR hN' (p:=x) (by omega)
  obtain⟨y,hy⟩:=Ui hN w.b.Places[p] w.peaks[p] w.s.Rem[p]
  rw[cond_true,BQ hpk',Option.bind_some,Option.bind_some,BQ hrm',Option.bind_some,Option.bind_some,hy,Option.bind_some,Option.bind_some,Option.bind_some,hx,Option.bind_some,Option.bind_some,ht,Option.bind_some]
  cases decide (y.1≤t)
  ·obtain⟨r,hr,r1,r2⟩:=RX hN' hW hp w.b.Places[p] y (by omega) hur i (M6 hN hW)
   exact⟨r,hr,r1,r2.le (by omega)⟩
  ·rw[cond_true,BQ (show p<(upd w.s.Rem (p:Int) 0).length by omega),Option.bind_some,Option.bind_some]
   obtain⟨r,hr,r1,r2⟩:=RX (rem:=upd (upd w.s.Rem (p:Int) 0) (p:Int) y.2) hN' hW hp w.b.Places[p] y (by omega) (by rw[K0];exact hur) i (M6 hN hW)
   exact⟨r,hr,r1,r2.le (by omega)⟩
end Go.Proofs.YtblcgjadhemlbaaGreat
