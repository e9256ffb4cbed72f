import Derived.Test.YtblcgjadhemlbaaGreatQPurePl
import Derived.Test.YtblcgjadhemlbaaGreatQPureSu
namespace Go.Proofs.YtblcgjadhemlbaaGreat
open Go.RowKit
set_option linter.unusedVariables false
set_option linter.unusedSimpArgs false
end Go.Proofs.YtblcgjadhemlbaaGreat
namespace Go.Proofs.YtblcgjadhemlbaaGreat
open Go.RowKit
set_option linter.unusedVariables false
set_option linter.unusedSimpArgs false
def sl (N:Nat) (a b:Int):Int:=(Ed N a b).getD 0
theorem slN {an dn q r:Nat}(hd:0<dn) (hn:an≤dn) (hq:q=an*1099511627776/dn) (hr:r=an*1099511627776%dn):q≤1099511627776∧an*1099511627776=q*dn+r∧r<dn:=by
 refine⟨?_,by rw[hq,hr];exact TO _ _,by rw[hr];exact Nat.mod_lt _ hd⟩
 rw[hq]
 exact Nat.div_le_of_le_mul (by rw[Nat.mul_comm dn];rw[Nat.mul_comm an];exact Nat.mul_le_mul_left _ hn)
structure W7 (N:Nat) (b:AZ) (l:Au):Prop where
 base:Ip b l
 gate:l.Kind=0→GK N l.Band.Lo l.Rate=some true∧GK N l.Rate l.Band.Hi=some true∧(0≤l.Positions∧l.Positions≤64)∧(0≤l.Speed∧l.Speed≤l.Positions)∧(0≤l.Leak∧l.Leak≤1125899906842624)∧(l.BackDen=0→l.BackNum=0)∧(l.To≠ -1∨l.BackDen=0)
 weir:l.Kind=1∨l.Kind=5→0≤l.Crest∧l.Crest≤1125899906842624
 pump:l.Kind=2→(0≤l.Num∧l.Num≤1125899906842624)∧(1≤l.Positions∧l.Positions≤64)∧(0≤l.Speed∧l.Speed≤l.Positions)
 siph:l.Kind=3→(0≤l.Prime∧l.Prime≤1125899906842624)∧(0≤l.Break∧l.Break≤1125899906842624)∧l.Break<l.Prime
 seep:l.Kind=4→(l.BackDen=0→l.BackNum=0)
 none_:l.Kind≠0→l.Kind≠2→l.Positions=0∧l.Speed=0
theorem TC {a b:Int}(h:Ps a b=true):b=0→a=0:=by
 intro hb
 simp only[Ps,Bool.and_eq_true,Bool.or_eq_true,decide_eq_true_eq] at h
 exact h.2.resolve_left λh=>h hb
theorem SO {N:Nat}(hN:18446744073709551616<N) {b:AZ}{l:Au}(hl:Ip b l) (h:ES N l=some true) (hu:ER N l=some true):W7 N b l:=by
 have hk:=hl.kind
 have hn:l.Kind≠0→l.Kind≠2→l.Positions=0∧l.Speed=0:=by
  intro h0 h2
  unfold ER at hu
  rw[decide_eq_false h0,decide_eq_true h2] at hu
  simp only[Bool.not_false,Bool.true_and] at hu
  cases c1:(decide (0<(l.Rate.length:Int))||decide (0<(l.Band.Lo.length:Int))||decide (0<(l.Band.Hi.length:Int))||decide (l.Leak≠0)) with
  |true=>rw[c1] at hu;cases hu
  |false=>
   rw[c1,cond_false] at hu
   cases c2:(decide (l.Positions≠0)||decide (l.Speed≠0)) with
   |true=>rw[c2] at hu;cases hu
   |false=>
    simp only[Bool.or_eq_false_iff,decide_eq_false_iff_not] at c2
    exact⟨Decidable.not_not.1 c2.1,Decidable.not_not.1 c2.2⟩
 unfold ES at h
 by_cases k0:l.Kind=0
 ·obtain⟨c1,c2,c3,c4,c5⟩:=hl.gate k0
  obtain⟨v4,e4⟩:=M2 hN l.Band.Lo l.Rate
  obtain⟨v5,e5⟩:=M2 hN l.Rate l.Band.Hi
  rw[decide_eq_true k0,cond_true,Mp (by omega) c1,Mp (by omega) c2,Mp (by omega) c3] at h
  simp only[e4,e5,Kr,J5,NH,Option.bind_some,Ee,Mq] at h
  have h:=Option.some.inj h
  simp only[Bool.and_eq_true,Bool.or_eq_true,decide_eq_true_eq] at h
  obtain⟨⟨⟨⟨⟨⟨⟨⟨⟨_,_⟩,_⟩,h4⟩,h5⟩,h6⟩,h7⟩,h8⟩,h9⟩,h10⟩:=h
  subst h4;subst h5
  exact⟨hl,λ_=>⟨e4,e5,Is h6,Is h7,JH h8,TC h9,h10⟩,λh=>by omega,λh=>by omega,λh=>by omega,λh=>by omega,hn⟩
 ·rw[decide_eq_false k0,cond_false] at h
  have hj:∀c:Bool,(c=true↔l.Kind=1∨l.Kind=5)→DA N l c=some true→W7 N b l:=by
   intro c hc h
   unfold DA at h
   simp only[Kr,J5,NH,Option.bind_some,Ee,Mq] at h
   cases c
   ·have hx:¬(l.Kind=1∨l.Kind=5):=λh=>by have:=hc.2 h;cases this
    rw[cond_false] at h
    by_cases k2:l.Kind=2
    ·rw[decide_eq_true k2,cond_true] at h
     have h:=Option.some.inj h
     simp only[Bool.and_eq_true] at h
     obtain⟨⟨h1,h2⟩,h3⟩:=h
     exact⟨hl,λh=>by omega,λh=>by omega,λ_=>⟨JH h1,Is h2,Is h3⟩,λh=>by omega,λh=>by omega,hn⟩
    ·rw[decide_eq_false k2,cond_false] at h
     by_cases k3:l.Kind=3
     ·rw[decide_eq_true k3,cond_true] at h
      have h:=Option.some.inj h
      simp only[Bool.and_eq_true,decide_eq_true_eq] at h
      obtain⟨⟨⟨⟨h1,h2⟩,h3⟩,h4⟩,h5⟩:=h
      exact⟨hl,λh=>by omega,λh=>by omega,λh=>by omega,λ_=>⟨JH h3,JH h4,h5⟩,λh=>by omega,hn⟩
     ·rw[decide_eq_false k3,cond_false] at h
      have h:=Option.some.inj h
      simp only[Bool.and_eq_true,decide_eq_true_eq] at h
      obtain⟨⟨⟨h1,h2⟩,h3⟩,h4⟩:=h
      exact⟨hl,λh=>by omega,λh=>by omega,λh=>by omega,λh=>by omega,λ_=>TC h3,hn⟩
   ·have hy:=hc.1 rfl
    rw[cond_true] at h
    have h:=Option.some.inj h
    simp only[Bool.and_eq_true] at h
    obtain⟨⟨h1,h2⟩,h3⟩:=h
    exact⟨hl,λh=>by omega,λ_=>JH h1,λh=>by omega,λh=>by omega,λh=>by omega,hn⟩
  by_cases k1:l.Kind=1
  ·rw[decide_eq_true k1,cond_true] at h
   exact hj true (by simp [k1]) h
  ·rw[decide_eq_false k1,cond_false] at h
   exact hj _ (by simp [k1]) h
theorem Tu {N:Nat}(hN:18446744073709551616<N) {b:AZ}(hb:Hs b) (hl:∀l∈b.Links,Ip b l) (h:En N b=some true):∀l∈b.Links,W7 N b l:=by
 have q3:=hb.pl
 have q4:=hb.li
 unfold En at h
 rcases HQ b.Links.length (B7 N b (Cq N)) (Cq N) (λi=>∀l,b.Links[i]? =some l→W7 N b l) (λn k h=>by
  simp only[B7];rw[E7 h];rfl) (λn k h=>by
  simp only[B7]
  obtain⟨vf,ef,pf⟩:=Pw hN b.Links[k]
  obtain⟨vu,eu⟩:=Pg N b.Links[k]
  rw[E6 h,cond_true,BQ h]
  simp only[Option.bind_some,Kr,NF N _ (show b.Places.length<4611686018427387904 by omega),Nh N b _ _ (show b.Places.length<4611686018427387904 by omega),ef,eu,Ee,KG,BH (show k<4611686018427387904 by omega)]
  generalize hB:(_|| !vu)=B
  cases B
  ·simp only[Bool.or_eq_false_iff,Bool.not_eq_false'] at hB
   obtain⟨⟨_,h5⟩,h6⟩:=hB
   subst h5;subst h6
   refine .inr ⟨λl hl2=>?_,rfl⟩
   have:l=b.Links[k]:=by simpa [h] using hl2.symm
   rw[this]
   exact SO hN (hl _ (List.getElem_mem h)) ef eu
  ·exact .inl rfl) N 0 (by omega) (Nat.zero_le _) with h2|⟨hp,_⟩
 ·rw[show B7 N b (Cq N) N 0=some false from h2] at h;cases h
 ·intro l hl2
  obtain⟨i,hi,rfl⟩:=List.mem_iff_getElem.1 hl2
  exact hp i (Nat.zero_le _) hi _ (by simp [hi])
def Holds (n:Nat) (s:List Int) (g:Nat→Int):Prop:=s.length=n∧∀i,i<n→s[i]? =some (g i)
theorem Holds.ix {n:Nat}{s:List Int}{g:Nat→Int}(h:Holds n s g) {a:Int}(h0:0≤a) (h1:a<n):ix s a=some (g a.toNat):=by
 unfold Go.Proofs.YtblcgjadhemlbaaGreat.ix
 rw[if_neg (by omega)]
 exact h.2 _ (by omega)
theorem Holds.upd {n:Nat}{s:List Int}{g:Nat→Int}(h:Holds n s g) {a:Int}(h0:0≤a) (h1:a<n) (v:Int):Holds n (upd s a v) (λi=>if (i:Int)=a then v else g i):=by
 refine⟨by rw[JO,h.1],λi hi=>?_⟩
 unfold Go.Proofs.YtblcgjadhemlbaaGreat.upd
 rw[List.getElem?_set]
 have hl:=h.1
 show _=some (if (i:Int)=a then v else g i)
 by_cases e:(i:Int)=a
 ·rw[if_pos (by omega),if_pos (by omega),if_pos e]
 ·rw[if_neg (by omega),if_neg e]
  exact h.2 i hi
theorem Holds.congr {n:Nat}{s:List Int}{g g':Nat→Int}(h:Holds n s g) (e:∀i,i<n→g i=g' i):Holds n s g':=⟨h.1,λi hi=>(h.2 i hi).trans (congrArg some (e i hi))⟩
end Go.Proofs.YtblcgjadhemlbaaGreat
namespace Go.Proofs.YtblcgjadhemlbaaGreat
open Go.RowKit
set_option linter.unusedVariables false
set_option linter.unusedSimpArgs false
structure eE (b:AZ) (s:Al):Prop where
 own:KO b.Places.length b.Owners.length s.Own
 rem:s.Rem.length=b.Places.length
 gates:s.Gates.length=b.Links.length
 inn:s.In.length=b.Owners.length
 out:s.Out.length=b.Owners.length
 que:∀l∈s.Queue,l.Part.length=b.Owners.length
def U5 (s:Al) (k:Nat):Ak:=s.Gates.getD k default
def Wa (N:Nat) (b:AZ) (s:Al) (in_:Ca) (pk:List Int) (k:Nat):Ak:=
 gS N (PP b k) (gM N (PP b k) (stA N (PP b k) k in_.Cmds (Nz N (PP b k) k in_.Faults (U5 s k)))) (YQ pk (PP b k).From)
theorem WI {N:Nat}(hN:18446744073709551616<N) {b:AZ}(hb:Hs b) (hlk:∀l∈b.Links,Ip b l) {s:Al}(hs:eE b s) (hq:s.Queue.length≤1000) {in_:Ca}(h1:in_.Faults.length≤1000) (h2:in_.Cmds.length≤1000) (h3:in_.Takes.length≤1000) (h4:in_.Swaps.length≤1000):
  ∃r,H3 N b s in_=some r∧r.2.2.length=b.Places.length∧P4 b.Links.length r.1.Gates (Wa N b s in_ r.2.2):=by
 have hP:=hb.pl
 have hL:=hb.li
 have hW:=hb.own
 have hW1:=hb.own1
 unfold H3
 rw[T3 (by omega) (by have:=hs.own.len;omega) (λx hx=>by have:=hs.own.all x hx;omega) (by have:=hs.rem;omega) (by have:=hs.gates;omega) (by have:=hs.inn;omega) (by have:=hs.out;omega),Option.bind_some,JJ (by omega) _ (by decide)]
 have hg0:P4 b.Links.length s.Gates (U5 s):=⟨hs.gates,λk hk=>by
  have:k<s.Gates.length:=by rw[hs.gates];exact hk
  simp [U5,List.getD_eq_getElem?_getD,this]⟩
 obtain⟨gs,eg,hg⟩:=Ur (N:=N) (by omega) (w:=(⟨b,in_,s,([]:List Av),(List.replicate ((b.Places.length:Int)).toNat (0:Int)),([]:List Az)⟩:Ai)) rfl (show b.Links.length≤1000 by omega) h1 h2 hg0
 rw[eg,Option.bind_some]
 obtain⟨o1,eo1,ho1⟩:=UU (N:=N) (by omega) (w:=(⟨b,in_,({ s with Gates:=gs}:Al),([]:List Av),(List.replicate ((b.Places.length:Int)).toNat (0:Int)),([]:List Az)⟩:Ai)) (W:=b.Owners.length) (by omega) h4 hs.own
 rw[eo1,Option.bind_some]
 obtain⟨y,ey,hy1,hy2,hy3⟩:=WP (N:=N) (by omega) (w:=(⟨b,in_,(⟨s.Hour,o1,s.Rem,s.Queue,gs,s.In,s.Out⟩:Al),([]:List Av),(List.replicate ((b.Places.length:Int)).toNat (0:Int)),([]:List Az)⟩:Ai)) (W:=b.Owners.length) rfl hW1 hW hP ho1 hq hs.que hs.inn (by simp)
 rw[ey,Option.bind_some]
 obtain⟨z,ez,hz1,hz2,hz3,hz4⟩:=Rr (N:=N) (by omega) (w:=(⟨b,in_,(⟨s.Hour,y.1,s.Rem,s.Queue,gs,y.2.1,s.Out⟩:Al),y.2.2,(List.replicate ((b.Places.length:Int)).toNat (0:Int)),([]:List Az)⟩:Ai)) (W:=b.Owners.length) rfl hW hP hL hlk hy1 hq hs.que (Ht _ _) hg
 rw[ez,Option.bind_some]
 simp only at hy3 hz2 hz3 hz4
 obtain⟨⟨o,rm,out,ms,sn⟩,⟨i1,i2⟩,e⟩:=E5 b.Places.length (λn i (t:List (List Int)×List Int×List Int×List Av×List Az)=>FD N b in_ s y z (FE N s y z) n i t.1 t.2.1 t.2.2.1 t.2.2.2.1 t.2.2.2.2) (λt=>FE N s y z t.1 t.2.1 t.2.2.1 t.2.2.2.1 t.2.2.2.2) (λk t=>t.2.1.length=b.Places.length∧T7 b.Places.length b.Owners.length t.1 t.2.2.1 t.2.2.2.1 t.2.2.2.2 (64+k*(in_.Takes.length+b.Links.length+2))) (λn k t hk=>by
  simp only[FD];rw[E7 hk];rfl) (λn k t hi hk=>by
  obtain⟨o,rm,out,ms,sn⟩:=t
  obtain⟨i1,i2⟩:=hi
  simp only at i1 i2
  simp only[FD]
  have hmul:k*(in_.Takes.length+b.Links.length+2)≤64*(1000+96+2):=Nat.mul_le_mul (by omega) (by omega)
  obtain⟨r,er,r1,r2⟩:=Uu hN (w:=(⟨b,in_,(⟨s.Hour,o,rm,z.2.1,z.2.2.1,y.2.1,out⟩:Al),ms,z.2.2.2,sn⟩:Ai)) (W:=b.Owners.length) (by omega) (by show b.Links.length≤_;omega) h3 hlk hz4.1 hz3 i1 hk i2 (by omega)
  rw[E6 hk,cond_true,er,Option.bind_some,BH (by omega)]
  have hM:64+(k+1)*(in_.Takes.length+b.Links.length+2)=64+k*(in_.Takes.length+b.Links.length+2)+(in_.Takes.length+b.Links.length+2):=by rw[Nat.succ_mul];omega
  exact⟨(_,_,_,_,_),⟨r1,by rw[hM];exact r2⟩,rfl⟩) N 0 (z.1,s.Rem,s.Out,y.2.2,[]) ⟨hs.rem,⟨hz1,hs.out,by show y.2.2.length≤_;simp only[List.length_nil] at hy3;omega,by simp⟩⟩ (by omega) (Nat.zero_le _)
 rw[show FD N b in_ s y z (FE N s y z) N 0 z.1 s.Rem s.Out y.2.2 ([]:List Az)=FE N s y z o rm out ms sn from e]
 have hmul:b.Places.length*(in_.Takes.length+b.Links.length+2)≤64*(1000+96+2):=Nat.mul_le_mul hP (by omega)
 have hsn:=i2.sn
 simp only at hsn
 unfold FE
 rw[JI (by omega)]
 exact⟨_,rfl,hz3,hz4⟩
theorem Pn (N:Nat) (hN:1000000<N) (p:List Int) (k:Int):∃v,IF N p k=some v∧(v=true→(p.length:Int)=k∧k≤16):=by
 unfold IF
 cases hb:((decide (0≤k)&&decide (k≤16))&&decide ((p.length:Int)=k))
 ·exact⟨_,rfl,λh=>by cases h⟩
 ·simp only[Bool.and_eq_true,decide_eq_true_eq] at hb
  obtain⟨v,hv,_⟩:=Pp hN (p:=p) (by omega)
  rw[cond_true,hv]
  exact⟨_,rfl,λ_=>⟨hb.2,hb.1.2⟩⟩
theorem RA {N:Nat}(hN:1000000<N) {l:List Int}(hl:l.length≤1000) (m:Int):Df (HB N l m):=by
 unfold HB
 rcases KR l.length (λn i s=>ET N l m (Fu N) n s i) (Fu N) (some (0,false)) (λ_ _=>True) (λn k s hk=>by
  simp only[ET];rw[E7 hk];rfl) (λn k s _ hk=>by
  simp only[ET]
  rw[E6 hk,cond_true,BQ hk,Option.bind_some,BH (by omega)]
  cases (decide (l[k]<0)||decide (BD (m-s)<l[k]))
  ·exact .inr ⟨_,trivial,rfl⟩
  ·exact .inl rfl) N 0 0 trivial (by omega) (Nat.zero_le _) with e|⟨s,_,e⟩
 ·exact⟨_,e⟩
 ·exact⟨_,e⟩
theorem Tt {N:Nat}(hN:1000000<N) (b:AZ) (s:Al) (ho:s.Own.length≤1000) (hq:s.Queue.length≤1000):∃r,IT N b s=some r∧(r.2=true→(∀x∈s.Own,(x.length:Int)=b.Owners.length)∧∀l∈s.Queue,(l.Part.length:Int)=b.Owners.length):=by
 unfold IT
 rcases KR s.Own.length (λn i t=>ED N b s (EE N b s) n t i) (EE N b s) (some (0,false)) (λk _=>∀x∈s.Own.take k,(x.length:Int)=b.Owners.length) (λn k t hk=>by
  simp only[ED];rw[E7 hk];rfl) (λn k t hi hk=>by
  simp only[ED]
  obtain⟨v,hv,k2⟩:=Pn N hN s.Own[k] (b.Owners.length:Int)
  rw[E6 hk,cond_true,BQ hk,Option.bind_some,hv,Option.bind_some,BH (by omega)]
  cases v
  ·exact .inl rfl
  ·obtain⟨e1,e2⟩:=k2 rfl
   obtain⟨y,hy⟩:=IR hN (p:=s.Own[k]) (by omega)
   simp only[Bool.not_true,cond_false]
   rw[hy,Option.bind_some]
   cases decide (1125899906842624<BD (t+y))
   ·exact .inr ⟨_,JP hk hi e1,rfl⟩
   ·exact .inl rfl) N 0 0 (by simp) (by omega) (Nat.zero_le _) with e|⟨t,i1,e⟩
 ·exact⟨_,e,λh=>by cases h⟩
 ·rw[show ED N b s (EE N b s) N 0 0=EE N b s t from e]
  rw[List.take_length] at i1
  unfold EE
  rcases KR s.Queue.length (λn i t=>Ep N b s (GO N) n t i) (GO N) (some (0,false)) (λk _=>∀l∈s.Queue.take k,(l.Part.length:Int)=b.Owners.length) (λn k t hk=>by
   simp only[Ep];rw[E7 hk];rfl) (λn k t hi hk=>by
   simp only[Ep]
   obtain⟨v,hv,k2⟩:=Pn N hN (s.Queue[k]).Part (b.Owners.length:Int)
   rw[E6 hk,cond_true,BQ hk,BH (by omega)]
   simp only[Option.bind_some,Kp,hv,Ee]
   generalize cond (decide ((s.Queue[k]).At<s.Hour)) true (!(decide (0≤(s.Queue[k]).To)&&decide ((s.Queue[k]).To<(b.Places.length:Int))))=c
   cases c
   ·cases v
    ·exact .inl rfl
    ·obtain⟨e1,e2⟩:=k2 rfl
     obtain⟨y,hy⟩:=IR hN (p:=(s.Queue[k]).Part) (by omega)
     simp only[Bool.not_true,cond_false]
     rw[hy,Option.bind_some]
     cases (decide (y≤0)||decide (1125899906842624<BD (t+y)))
     ·exact .inr ⟨_,JP hk hi e1,rfl⟩
     ·exact .inl rfl
   ·exact .inl rfl) N 0 t (by simp) (by omega) (Nat.zero_le _) with e2|⟨t2,i2,e2⟩
  ·exact⟨_,e2,λh=>by cases h⟩
  ·rw[List.take_length] at i2
   exact⟨_,e2,λ_=>⟨i1,i2⟩⟩
structure Yy (b:AZ) (s:Al):Prop where
 len:eE b s
 hour:0≤s.Hour∧s.Hour≤16777216
 gts:∀(k:Nat) l g,b.Links[k]? =some l→s.Gates[k]? =some g→(0≤g.Pos∧g.Pos≤l.Positions)∧(0≤g.Target∧g.Target≤l.Positions)
theorem Tg {N:Nat}(hN:1000000<N) {b:AZ}(hb:Hs b) (s:Al) (hq:s.Queue.length≤1000):∃v,HT N b s=some v∧(v=true→Yy b s):=by
 have hP:=hb.pl
 have hL:=hb.li
 have hW:=hb.own
 unfold HT
 generalize hB:(_||decide ((s.Out.length:Int)≠(b.Owners.length:Int)))=B
 cases B
 ·simp only[Bool.or_eq_false_iff,decide_eq_false_iff_not,ne_eq,Decidable.not_not] at hB
  obtain⟨⟨⟨⟨⟨⟨b1,b2⟩,b3⟩,b4⟩,b5⟩,b6⟩,b7⟩:=hB
  rw[cond_false]
  rcases KR b.Places.length (λn i (_:Unit)=>Eh N b s (Ej N b s) n i) (λ_=>Ej N b s) (some false) (λ_ _=>True) (λn k t hk=>by
   simp only[Eh];rw[E7 hk];rfl) (λn k t _ hk=>by
   simp only[Eh]
   have hr:k<s.Rem.length:=by omega
   rw[E6 hk,cond_true,BQ hk,BQ hr,BH (by omega)]
   simp only[Option.bind_some,Ee]
   generalize cond (decide (s.Rem[k]<0)) true (decide (max 0 (BD ((b.Places[k]).Den-1))<s.Rem[k]))=c
   cases c
   ·exact .inr ⟨(),trivial,rfl⟩
   ·exact .inl rfl) N 0 () trivial (by omega) (Nat.zero_le _) with e|⟨_,_,e⟩
  ·exact⟨_,e,λh=>by cases h⟩
  ·rw[show Eh N b s (Ej N b s) N 0=Ej N b s from e]
   unfold Ej
   rcases KR b.Links.length (λn i (_:Unit)=>Eg N b s (Ei N b s) n i) (λ_=>Ei N b s) (some false) (λi _=>∀(k:Nat) l g,k<i→b.Links[k]? =some l→s.Gates[k]? =some g→(0≤g.Pos∧g.Pos≤l.Positions)∧(0≤g.Target∧g.Target≤l.Positions)) (λn k t hk=>by
    simp only[Eg];rw[E7 hk];rfl) (λn i t hi hk=>by
    simp only[Eg]
    have hr:i<s.Gates.length:=by omega
    rw[E6 hk,cond_true,BQ hk,BQ hr,BH (by omega)]
    simp only[Option.bind_some]
    cases hc:(((decide ((s.Gates[i]).Pos<0)||decide ((b.Links[i]).Positions<(s.Gates[i]).Pos))||decide ((s.Gates[i]).Target<0))||decide ((b.Links[i]).Positions<(s.Gates[i]).Target))
    ·simp only[Bool.or_eq_false_iff,decide_eq_false_iff_not] at hc
     obtain⟨⟨⟨c1,c2⟩,c3⟩,c4⟩:=hc
     rw[cond_false]
     cases (((s.Gates[i]).Open&&decide ((b.Links[i]).Kind≠5))&&decide ((b.Links[i]).Kind≠3))
     ·refine .inr ⟨(),λk l g hki hl hg=>?_,rfl⟩
      by_cases hne:k=i
      ·subst hne
       rw[List.getElem?_eq_getElem hk] at hl
       rw[List.getElem?_eq_getElem hr] at hg
       cases hl;cases hg
       exact⟨⟨by omega,by omega⟩,by omega,by omega⟩
      ·exact hi k l g (by omega) hl hg
     ·exact .inl rfl
    ·exact .inl rfl) N 0 () (λk l g h=>by omega) (by omega) (Nat.zero_le _) with e|⟨_,i2,e⟩
   ·exact⟨_,e,λh=>by cases h⟩
   ·rw[show Eg N b s (Ei N b s) N 0=Ei N b s from e]
    unfold Ei
    obtain⟨r,er,k1⟩:=Tt hN b s (by omega) hq
    rw[er,Option.bind_some]
    cases hr2:r.2
    ·exact⟨_,rfl,λh=>by cases h⟩
    ·obtain⟨k1,k2⟩:=k1 hr2
     obtain⟨u,hu⟩:=RA hN (l:=s.In) (by omega) 1152921504606846976
     rw[Bool.not_true,cond_false,hu,Option.bind_some]
     cases u.2
     ·exact⟨_,rfl,λh=>by cases h⟩
     ·obtain⟨x,hx⟩:=RA hN (l:=s.Out) (by omega) (BD (BD (u.1+1125899906842624)-r.1))
      rw[Bool.not_true,cond_false,hx,Option.bind_some]
      exact⟨_,rfl,λ_=>⟨⟨⟨by omega,λx hx=>by have:=k1 x hx;omega⟩,by omega,by omega,by omega,by omega,λl hl=>by have:=k2 l hl;omega⟩,⟨by omega,by omega⟩,λk l g hl hg=>i2 k l g (List.getElem?_eq_some_iff.1 hl).1 hl hg⟩⟩
 ·exact⟨_,rfl,λh=>by cases h⟩
end Go.Proofs.YtblcgjadhemlbaaGreat
