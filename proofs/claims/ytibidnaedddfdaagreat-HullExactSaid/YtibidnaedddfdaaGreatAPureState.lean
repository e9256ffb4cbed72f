import Derived.Test.YtibidnaedddfdaaGreatAPurePool
namespace Go.Proofs.YtibidnaedddfdaaGreat
open Go.RowKit
set_option linter.unusedVariables false
set_option linter.unusedSimpArgs false
abbrev Vt (s:AV):List Int:=s.Own.map List.sum
abbrev LP (l:List E0):List Int:=l.map λx=>x.Part.sum
structure Qa (b:AJ) (s:AV) (l:E0):Prop where
 at_:s.Hour≤l.At
 to_:0≤l.To∧l.To<b.Places.length
 part:J0 l.Part
 plen:l.Part.length≤16
 pos:0<l.Part.sum
structure UH (l:AX) (g:BM):Prop where
 pos:0≤g.Pos∧g.Pos≤l.Positions
 tgt:0≤g.Target∧g.Target≤l.Positions
 opn:g.Open=true→l.Kind=5∨l.Kind=3
structure EK (b:AJ) (s:AV):Prop where
 hour:0≤s.Hour∧s.Hour≤16777216
 own:s.Own.length=b.Places.length
 gat:s.Gates.length=b.Links.length
 pools:∀p∈s.Own,J0 p∧p.length≤16
 queue:∀l∈s.Queue,Qa b s l
 tot:(Vt s).sum+(LP s.Queue).sum≤MV
 gates:∀(k:Nat) l g,b.Links[k]? =some l→s.Gates[k]? =some g→UH l g
theorem JI {α}{l:List α}{k:Nat}(h:k<l.length) {P:α→Prop}(h1:∀x∈l.take k,P x) (h2:P l[k]):∀x∈l.take (k+1),P x:=by
 intro x hx
 rw[List.take_succ_eq_append_getElem h,List.mem_append] at hx
 rcases hx with hx|hx
 ·exact h1 x hx
 ·simp only[List.mem_singleton] at hx;subst hx;exact h2
theorem Mk {α}{f:α→Int}{l:List α}{k:Nat}(h:k<l.length):((l.take (k+1)).map f).sum=((l.take k).map f).sum+f l[k]:=by
 rw[List.take_succ_eq_append_getElem h,List.map_append,List.sum_append];simp
theorem LA {α}{f:α→Int}{l:List α}(h:∀x∈l,0≤f x):0≤(l.map f).sum:=Li λy hy=>by
 obtain⟨x,hx,rfl⟩:=List.mem_map.1 hy;exact h x hx
theorem Rk {N:Nat}(hN:5000<N) (b:AJ) (hb:FE b) (s:AV) (ho:s.Own.length≤64) (hq:s.Queue.length≤1000):∃r,HB N b s=some r∧(r.2=true→
  (∀p∈s.Own,J0 p∧p.length≤16)∧(∀l∈s.Queue,Qa b s l)∧(Vt s).sum+(LP s.Queue).sum≤MV):=by
 have hown:=hb.own
 unfold HB
 rcases L8 s.Own.length (λn i x=>CU N b s (CV N b s) n x i) (CV N b s) (some (0,false)) (λk x=>x=((s.Own.take k).map List.sum).sum∧(∀p∈s.Own.take k,J0 p∧p.length≤16)∧x≤MV) (λn k x hk=>by
  simp only[CU];rw[EO hk];rfl) (λn k x hi hk=>by
  obtain⟨rfl,h1,h2⟩:=hi
  have h0:=LA (f:=List.sum) (l:=s.Own.take k) λp hp=>(h1 p hp).1.nn
  simp only[CU]
  rw[EN hk,cond_true,A9 hk,Az (by omega)]
  simp only[Option.bind_some]
  obtain⟨v,e1,e2⟩:=OK (N:=N) (by omega) s.Own[k] b.Owners.length
  rw[e1]
  simp only[Option.bind_some]
  cases v with
  |false=>exact .inl rfl
  |true=>
   obtain⟨p1,p2,p3⟩:=e2 rfl
   have p4:=p1.nn
   have p5:s.Own[k].sum≤1125899906842624:=p1.le
   rw[Hc p1 (by omega) (by omega)]
   have e3:Ar (((s.Own.take k).map List.sum).sum+s.Own[k].sum)=((s.Own.take (k+1)).map List.sum).sum:=by rw[Mk hk];exact E6 (by omega) (by unfold MV at h2;omega)
   simp only[Option.bind_some,Bool.not_true,cond_false]
   rw[e3]
   cases hc:decide (1125899906842624<((s.Own.take (k+1)).map List.sum).sum) with
   |true=>exact .inl rfl
   |false=>
    simp only[decide_eq_false_iff_not] at hc
    exact .inr ⟨_,⟨rfl,JI hk h1 ⟨p1,by omega⟩,by unfold MV;omega⟩,rfl⟩) N 0 0 ⟨by simp,by simp,by simp⟩ (by omega) (Nat.zero_le _) with h|⟨x,⟨hx,h1,h2⟩,h⟩
 ·exact⟨_,h,λh=>by cases h⟩
 ·rw[List.take_length] at hx h1
  have hx0:0≤x:=by rw[hx];exact LA λp hp=>(h1 p hp).1.nn
  show ∃r,CU N b s (CV N b s) N 0 0=some r∧_
  have h:CU N b s (CV N b s) N 0 0=CV N b s x:=h
  rw[h]
  unfold CV
  rcases L8 s.Queue.length (λn i y=>DQ N b s (E3 N) n y i) (E3 N) (some (0,false)) (λk y=>y=x+((s.Queue.take k).map λz=>z.Part.sum).sum∧(∀l∈s.Queue.take k,Qa b s l)∧y≤MV) (λn k y hk=>by
   simp only[DQ];rw[EO hk];rfl) (λn k y hi hk=>by
   obtain⟨rfl,g1,g2⟩:=hi
   have g0:=LA (f:=λz:E0=>z.Part.sum) (l:=s.Queue.take k) λl hl=>(g1 l hl).part.nn
   simp only[DQ]
   rw[EN hk,cond_true,A9 hk,Az (by omega)]
   simp only[Option.bind_some,Ib]
   cases hc:decide ((s.Queue[k]).At<s.Hour) with
   |true=>simp only[cond_true,Option.bind_some];exact .inl (by trivial)
   |false=>
    simp only[cond_false,Option.bind_some]
    cases hd:(decide (0≤(s.Queue[k]).To)&&decide ((s.Queue[k]).To<(b.Places.length:Int))) with
    |false=>simp only[Bool.not_false,cond_true,Option.bind_some];exact .inl (by trivial)
    |true=>
     simp only[Bool.not_true,cond_false,Option.bind_some]
     simp only[decide_eq_false_iff_not] at hc
     simp only[Bool.and_eq_true,decide_eq_true_eq] at hd
     obtain⟨v,e1,e2⟩:=OK (N:=N) (by omega) (s.Queue[k]).Part b.Owners.length
     rw[e1]
     simp only[Option.bind_some]
     cases v with
     |false=>exact .inl rfl
     |true=>
      obtain⟨p1,p2,p3⟩:=e2 rfl
      have p4:=p1.nn
      have p5:(s.Queue[k]).Part.sum≤1125899906842624:=p1.le
      simp only[Bool.not_true,cond_false]
      rw[Hc p1 (by omega) (by omega)]
      have e3:Ar (x+((s.Queue.take k).map λz=>z.Part.sum).sum+(s.Queue[k]).Part.sum)=x+((s.Queue.take (k+1)).map λz=>z.Part.sum).sum:=by
       rw[Mk hk,←Int.add_assoc];exact E6 (by omega) (by unfold MV at g2;omega)
      simp only[Option.bind_some]
      rw[e3]
      cases hc2:(decide ((s.Queue[k]).Part.sum≤0)||decide (1125899906842624<x+((s.Queue.take (k+1)).map λz=>z.Part.sum).sum)) with
      |true=>exact .inl rfl
      |false=>
       simp only[Bool.or_eq_false_iff,decide_eq_false_iff_not] at hc2
       exact .inr ⟨_,⟨rfl,JI hk g1 ⟨by omega,hd,p1,by omega,by omega⟩,by unfold MV;omega⟩,rfl⟩) N 0 x ⟨by simp,by simp,h2⟩ (by omega) (Nat.zero_le _) with h'|⟨y,⟨hy,g1,g2⟩,h'⟩
  ·exact⟨_,h',λh=>by cases h⟩
  ·rw[List.take_length] at hy g1
   exact⟨_,h',λ_=>⟨h1,g1,by rw[hx] at hy;rw[←hy];exact g2⟩⟩
theorem Ql {N:Nat}(l:List Int) (hl:l.length<N) (hl2:l.length<4611686018427387904) (lim:Int):Df (Fx N l lim):=by
 unfold Fx
 rcases L8 l.length (λn i x=>C7 N l lim (Eb N) n x i) (Eb N) (some (0,false)) (λk x=>True) (λn k x hk=>by
  simp only[C7];rw[EO hk];rfl) (λn k x hi hk=>by
  simp only[C7]
  rw[EN hk,cond_true,A9 hk,Az (by omega)]
  simp only[Option.bind_some]
  cases (decide (l[k]<0)||decide (Ar (lim-x)<l[k]))
  ·exact .inr ⟨_,trivial,rfl⟩
  ·exact .inl rfl) N 0 0 trivial (by omega) (Nat.zero_le _) with h|⟨x,_,h⟩
 ·exact⟨_,h⟩
 ·exact⟨_,h⟩
theorem OF {N:Nat}(hN:5000<N) (b:AJ) (hb:FE b) (s:AV) (hq:s.Queue.length≤1000):∃v,Gt N b s=some v∧(v=true→EK b s):=by
 have hpl:=hb.pl
 have hli:=hb.li
 have hown:=hb.own
 unfold Gt
 generalize hB:(_||decide ((s.Out.length:Int)≠(b.Owners.length:Int)))=B
 rcases (by cases B<;>simp:B=true∨B=false) with rfl|rfl
 ·exact⟨false,rfl,λh=>by cases h⟩
 simp only[Bool.or_eq_false_iff,decide_eq_false_iff_not,ne_eq,Decidable.not_not] at hB
 obtain⟨⟨⟨⟨⟨⟨q1,q2⟩,q3⟩,q4⟩,q5⟩,q6⟩,q7⟩:=hB
 simp only[cond_false]
 rcases Fm b.Places.length (DH N b s (DJ N b s)) (DJ N b s) (λ_=>True) (λn k h=>by
  simp only[DH];rw[EO h];rfl) (λn k h=>by
  simp only[DH]
  have h2:k<s.Rem.length:=by omega
  rw[EN h,cond_true,A9 h,A9 h2,Az (by omega)]
  simp only[Option.bind_some,C2]
  cases cond (decide (s.Rem[k]<0)) true (decide (max 0 (Ar ((b.Places[k]).Den-1))<s.Rem[k]))
  ·exact .inr ⟨trivial,rfl⟩
  ·exact .inl rfl) N 0 (by omega) (Nat.zero_le _) with h|⟨_,h⟩
 ·exact⟨false,h,λh=>by cases h⟩
 have h:DH N b s (DJ N b s) N 0=DJ N b s:=h
 rw[h]
 unfold DJ
 rcases Fm b.Links.length (DG N b s (DI N b s)) (DI N b s) (λk=>∀l g,b.Links[k]? =some l→s.Gates[k]? =some g→UH l g) (λn k h=>by
  simp only[DG];rw[EO h];rfl) (λn k h=>by
  simp only[DG]
  have h2:k<s.Gates.length:=by omega
  rw[EN h,cond_true,A9 h,A9 h2,Az (by omega)]
  simp only[Option.bind_some]
  cases hc:(((decide ((s.Gates[k]).Pos<0)||decide ((b.Links[k]).Positions<(s.Gates[k]).Pos))||decide ((s.Gates[k]).Target<0))||decide ((b.Links[k]).Positions<(s.Gates[k]).Target)) with
  |true=>exact .inl rfl
  |false=>
   simp only[Bool.or_eq_false_iff,decide_eq_false_iff_not] at hc
   obtain⟨⟨⟨c1,c2⟩,c3⟩,c4⟩:=hc
   simp only[cond_false]
   cases hd:(((s.Gates[k]).Open&&decide ((b.Links[k]).Kind≠5))&&decide ((b.Links[k]).Kind≠3)) with
   |true=>exact .inl rfl
   |false=>
    refine .inr ⟨λl g e1 e2=>?_,rfl⟩
    rw[List.getElem?_eq_getElem h] at e1
    rw[List.getElem?_eq_getElem h2] at e2
    cases e1
    cases e2
    refine⟨⟨by omega,by omega⟩,⟨by omega,by omega⟩,λho=>?_⟩
    rw[ho] at hd
    simp only[Bool.true_and,Bool.and_eq_false_iff,decide_eq_false_iff_not,ne_eq,Decidable.not_not] at hd
    exact hd) N 0 (by omega) (Nat.zero_le _) with h|⟨hg,h⟩
 ·exact⟨false,h,λh=>by cases h⟩
 have h:DG N b s (DI N b s) N 0=DI N b s:=h
 rw[h]
 unfold DI
 obtain⟨r,e1,e2⟩:=Rk hN b hb s (by omega) hq
 rw[e1]
 simp only[Option.bind_some]
 cases hr:r.2 with
 |false=>exact⟨false,rfl,λh=>by cases h⟩
 |true=>
  obtain⟨p1,p2,p3⟩:=e2 hr
  simp only[Bool.not_true,cond_false]
  obtain⟨y1,u1⟩:=Ql (N:=N) s.In (by omega) (by omega) 1152921504606846976
  rw[u1]
  simp only[Option.bind_some]
  have fin:EK b s:=⟨⟨by omega,by omega⟩,by omega,by omega,p1,p2,p3,λk l g h1 h2=>hg k (Nat.zero_le _) (List.getElem?_eq_some_iff.1 h1).1 l g h1 h2⟩
  cases y1.2
  ·exact⟨false,rfl,λh=>by cases h⟩
  ·simp only[Bool.not_true,cond_false]
   obtain⟨y2,u2⟩:=Ql (N:=N) s.Out (by omega) (by omega) (Ar (Ar (y1.1+1125899906842624)-r.1))
   rw[u2]
   exact⟨_,rfl,λ_=>fin⟩
end Go.Proofs.YtibidnaedddfdaaGreat
