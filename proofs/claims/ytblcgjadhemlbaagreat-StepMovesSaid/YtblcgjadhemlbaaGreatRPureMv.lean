import Derived.Test.YtblcgjadhemlbaaGreatRPureE3
namespace Go.Proofs.YtblcgjadhemlbaaGreat
open Go.RowKit
set_option linter.unusedVariables false
set_option linter.unusedSimpArgs false
theorem Qf {N:Nat}(hN:1000000<N) (p:List Int) (W:Nat):∃v,Ir N p (W:Int)=some v∧(v=true→PX W p∧W≤16):=by
 unfold Ir
 cases hb:((decide (0≤(W:Int))&&decide ((W:Int)≤16))&&decide ((p.length:Int)=(W:Int)))
 ·exact⟨_,rfl,λh=>by cases h⟩
 ·simp only[Bool.and_eq_true,decide_eq_true_eq] at hb
  obtain⟨v,hv,k⟩:=U4 hN (p:=p) (by omega)
  rw[cond_true,hv]
  exact⟨_,rfl,λh=>⟨⟨by omega,(k h).1,(k h).2⟩,by omega⟩⟩
theorem SK {N:Nat}(hN:1000000<N) {l:List Int}(hl:l.length≤1000) {m:Int}(hm:0≤m∧m≤2305843009213693952):∃r,Hj N l m=some r∧(r.2=true→(∀x∈l,0≤x)∧l.sum≤m∧r.1=l.sum):=by
 unfold Hj
 rcases Lj l.length (λn i s=>El N l m (GL N) n s i) (GL N) (some (0,false)) (λk s=>(∀x∈l.take k,0≤x)∧s=(l.take k).sum∧s≤m∧0≤s) (λn k s hk=>by
  simp only[El];rw[Eh hk];rfl) (λn k s hi hk=>by
  obtain⟨i1,i2,i3,i4⟩:=hi
  simp only[El]
  rw[Ee hk,cond_true,BI hk,Option.bind_some,BF (by omega),EF (n:=m-s) (by omega) (by omega)]
  cases hb:(decide (l[k]<0)||decide (m-s<l[k]))
  ·simp only[Bool.or_eq_false_iff,decide_eq_false_iff_not] at hb
   rw[cond_false,EF (n:=s+l[k]) (by omega) (by omega)]
   exact .inr ⟨_,⟨Jw hk i1 (by omega),by rw[I4 hk,i2],by omega,by omega⟩,rfl⟩
  ·exact .inl rfl) N 0 0 ⟨by simp,rfl,hm.1,Int.le_refl _⟩ (by omega) (Nat.zero_le _) with e|⟨s,⟨i1,i2,i3,i4⟩,e⟩
 ·exact⟨_,e,λh=>by cases h⟩
 ·rw[List.take_length] at i1 i2
  exact⟨_,e,λ_=>⟨i1,by omega,i2⟩⟩
theorem U9 {N:Nat}(hN:1000000<N) (b:AX) (s:Aj) (ho:s.Own.length≤1000) (hq:s.Queue.length≤1000):∃r,I6 N b s=some r∧(r.2=true→(∀x∈s.Own,PX b.Owners.length x)∧(∀l∈s.Queue,(PX b.Owners.length l.Part∧0≤l.To∧l.To<b.Places.length)∧s.Hour≤l.At∧0<l.Part.sum)∧r.1=Gn s.Own+IW s.Queue∧r.1≤1125899906842624):=by
 unfold I6
 rcases Lj s.Own.length (λn i t=>ER N b s (ES N b s) n t i) (ES N b s) (some (0,false)) (λk t=>(∀x∈s.Own.take k,PX b.Owners.length x)∧t=Gn (s.Own.take k)∧0≤t∧t≤1125899906842624) (λn k t hk=>by
  simp only[ER];rw[Eh hk];rfl) (λn k t hi hk=>by
  obtain⟨i1,i2,i3,i4⟩:=hi
  simp only[ER]
  obtain⟨v,hv,k2⟩:=Qf hN s.Own[k] b.Owners.length
  rw[Ee hk,cond_true,BI hk,Option.bind_some,hv,Option.bind_some,BF (by omega)]
  cases v
  ·exact .inl rfl
  ·obtain⟨e1,e2⟩:=k2 rfl
   have h1:=e1.mv
   have h2:=e1.sum0
   rw[Bool.not_true,cond_false,e1.total hN (by omega),Option.bind_some,EF (n:=t+(s.Own[k]).sum) (by omega) (by omega)]
   by_cases hc:1125899906842624<t+(s.Own[k]).sum
   ·rw[decide_eq_true hc];exact .inl rfl
   ·rw[decide_eq_false hc]
    exact .inr ⟨_,⟨Jw hk i1 e1,by rw[LP hk,i2],by omega,by omega⟩,rfl⟩) N 0 0 ⟨by simp,rfl,Int.le_refl _,by decide⟩ (by omega) (Nat.zero_le _) with e|⟨t,⟨i1,i2,i3,i4⟩,e⟩
 ·exact⟨_,e,λh=>by cases h⟩
 ·rw[show ER N b s (ES N b s) N 0 0=ES N b s t from e]
  rw[List.take_length] at i1 i2
  unfold ES
  rcases Lj s.Queue.length (λn i t=>FB N b s (Gp N) n t i) (Gp N) (some (0,false)) (λk u=>(∀l∈s.Queue.take k,(PX b.Owners.length l.Part∧0≤l.To∧l.To<b.Places.length)∧s.Hour≤l.At∧0<l.Part.sum)∧u=t+IW (s.Queue.take k)∧0≤u∧u≤1125899906842624) (λn k t hk=>by
   simp only[FB];rw[Eh hk];rfl) (λn k u hi hk=>by
   obtain⟨j1,j2,j3,j4⟩:=hi
   simp only[FB]
   obtain⟨v,hv,k2⟩:=Qf hN (s.Queue[k]).Part b.Owners.length
   rw[Ee hk,cond_true,BI hk,BF (by omega)]
   simp only[Option.bind_some,Ms,hv,Fc]
   cases hc:cond (decide ((s.Queue[k]).At<s.Hour)) true (!(decide (0≤(s.Queue[k]).To)&&decide ((s.Queue[k]).To<(b.Places.length:Int))))
   ·rw[Ku,Bool.or_eq_false_iff] at hc
    obtain⟨c1,c2⟩:=hc
    have c1:=of_decide_eq_false c1
    rw[Bool.not_eq_false'] at c2
    obtain⟨c2,c3⟩:=Nt.1 c2
    cases v
    ·exact .inl rfl
    ·obtain⟨e1,e2⟩:=k2 rfl
     have h1:=e1.mv
     have h2:=e1.sum0
     simp only[Bool.not_true,cond_false]
     rw[e1.total hN (by omega),Option.bind_some,EF (n:=u+(s.Queue[k]).Part.sum) (by omega) (by omega)]
     cases hd:(decide ((s.Queue[k]).Part.sum≤0)||decide (1125899906842624<u+(s.Queue[k]).Part.sum))
     ·simp only[Bool.or_eq_false_iff,decide_eq_false_iff_not] at hd
      exact .inr ⟨_,⟨Jw hk j1 ⟨⟨e1,c2,by omega⟩,by omega,by omega⟩,by rw[Kd hk,j2];omega,by omega,by omega⟩,rfl⟩
     ·exact .inl rfl
   ·exact .inl rfl) N 0 t ⟨by simp,by simp [IW],i3,i4⟩ (by omega) (Nat.zero_le _) with e2|⟨u,⟨j1,j2,j3,j4⟩,e2⟩
  ·exact⟨_,e2,λh=>by cases h⟩
  ·rw[List.take_length] at j1 j2
   exact⟨_,e2,λ_=>⟨i1,j1,by show u=_;omega,j4⟩⟩
structure RgX (b:AX) (s:Aj):Prop where
 x:jD b s
 hour:0≤s.Hour∧s.Hour≤16777216
 gts:∀(k:Nat) l g,b.Links[k]? =some l→s.Gates[k]? =some g→(0≤g.Pos∧g.Pos≤l.Positions)∧(0≤g.Target∧g.Target≤l.Positions)
 at_:∀l∈s.Queue,s.Hour≤l.At∧0<l.Part.sum
 out0:∀x∈s.Out,0≤x
 outs:s.Out.sum≤s.In.sum+1125899906842624-(Gn s.Own+IW s.Queue)
theorem Uw {N:Nat}(hN:1000000<N) {b:AX}(hb:qQ b) (s:Aj) (hq:s.Queue.length≤1000):∃v,H2 N b s=some v∧(v=true→RgX b s):=by
 have hP:=hb.pl
 have hL:=hb.li
 have hW:=hb.own
 unfold H2
 generalize hB:(_||decide ((s.Out.length:Int)≠(b.Owners.length:Int)))=B
 cases B
 ·simp only[Bool.or_eq_false_iff,decide_eq_false_iff_not,ne_eq,Decidable.not_not] at hB
  obtain⟨⟨⟨⟨⟨⟨b1,b2⟩,b3⟩,b4⟩,b5⟩,b6⟩,b7⟩:=hB
  rw[cond_false]
  rcases Lj b.Places.length (λn i (_:Unit)=>E6 N b s (E8 N b s) n i) (λ_=>E8 N b s) (some false) (λ_ _=>True) (λn k t hk=>by
   simp only[E6];rw[Eh hk];rfl) (λn k t _ hk=>by
   simp only[E6]
   have hr:k<s.Rem.length:=by omega
   rw[Ee hk,cond_true,BI hk,BI hr,BF (by omega)]
   simp only[Option.bind_some,Fc]
   generalize cond (decide (s.Rem[k]<0)) true (decide (max 0 (BD ((b.Places[k]).Den-1))<s.Rem[k]))=c
   cases c
   ·exact .inr ⟨(),trivial,rfl⟩
   ·exact .inl rfl) N 0 () trivial (by omega) (Nat.zero_le _) with e|⟨_,_,e⟩
  ·exact⟨_,e,λh=>by cases h⟩
  ·rw[show E6 N b s (E8 N b s) N 0=E8 N b s from e]
   unfold E8
   rcases Lj b.Links.length (λn i (_:Unit)=>E5 N b s (E7 N b s) n i) (λ_=>E7 N b s) (some false) (λi _=>∀(k:Nat) l g,k<i→b.Links[k]? =some l→s.Gates[k]? =some g→(0≤g.Pos∧g.Pos≤l.Positions)∧(0≤g.Target∧g.Target≤l.Positions)) (λn k t hk=>by
    simp only[E5];rw[Eh hk];rfl) (λn i t hi hk=>by
    simp only[E5]
    have hr:i<s.Gates.length:=by omega
    rw[Ee hk,cond_true,BI hk,BI hr,BF (by omega)]
    simp only[Option.bind_some]
    cases hc:(((decide ((s.Gates[i]).Pos<0)||decide ((b.Links[i]).Positions<(s.Gates[i]).Pos))||decide ((s.Gates[i]).Target<0))||decide ((b.Links[i]).Positions<(s.Gates[i]).Target))
    ·simp only[Bool.or_eq_false_iff,decide_eq_false_iff_not] at hc
     obtain⟨⟨⟨c1,c2⟩,c3⟩,c4⟩:=hc
     rw[cond_false]
     cases (((s.Gates[i]).Open&&decide ((b.Links[i]).Kind≠5))&&decide ((b.Links[i]).Kind≠3))
     ·refine .inr ⟨(),λk l g hki hl hg=>?_,rfl⟩
      by_cases hne:k=i
      ·subst hne
       rw[List.getElem?_eq_getElem hk] at hl
       rw[List.getElem?_eq_getElem hr] at hg
       cases hl;cases hg
       exact⟨⟨by omega,by omega⟩,by omega,by omega⟩
      ·exact hi k l g (by omega) hl hg
     ·exact .inl rfl
    ·exact .inl rfl) N 0 () (λk l g h=>by omega) (by omega) (Nat.zero_le _) with e|⟨_,i2,e⟩
   ·exact⟨_,e,λh=>by cases h⟩
   ·rw[show E5 N b s (E7 N b s) N 0=E7 N b s from e]
    unfold E7
    obtain⟨r,er,k1⟩:=U9 hN b s (by omega) hq
    rw[er,Option.bind_some]
    cases hr2:r.2
    ·exact⟨_,rfl,λh=>by cases h⟩
    ·obtain⟨k1,k2,k3,k4⟩:=k1 hr2
     have hox:I0 b.Places.length b.Owners.length s.Own:=⟨by omega,k1⟩
     have hqx:QX b.Places.length b.Owners.length s.Queue:=λl hl=>(k2 l hl).1
     have hos:=hox.sum0
     have hqs:=(Io hqx 0).2
     rw[List.take_zero,show IW ([]:List Al)=0 from rfl] at hqs
     obtain⟨u,hu,ku⟩:=SK hN (l:=s.In) (by omega) (m:=1152921504606846976) (by decide)
     rw[Bool.not_true,cond_false,hu,Option.bind_some]
     cases hu2:u.2
     ·exact⟨_,rfl,λh=>by cases h⟩
     ·obtain⟨u1,u2,u3⟩:=ku hu2
      have u0:=JK u1
      rw[EF (n:=u.1+1125899906842624) (by omega) (by omega),EF (n:=u.1+1125899906842624-r.1) (by omega) (by omega)]
      obtain⟨x,hx,kx⟩:=SK hN (l:=s.Out) (by omega) (m:=u.1+1125899906842624-r.1) ⟨by omega,by omega⟩
      rw[Bool.not_true,cond_false,hx,Option.bind_some]
      refine⟨_,rfl,λhx2=>?_⟩
      obtain⟨x1,x2,x3⟩:=kx hx2
      exact⟨⟨hox,hqx,by omega,by omega,by omega,by omega,u1,u2,by omega⟩,⟨by omega,by omega⟩,λk l g hl hg=>i2 k l g (List.getElem?_eq_some_iff.1 hl).1 hl hg,λl hl=>(k2 l hl).2,x1,by omega⟩
 ·exact⟨_,rfl,λh=>by cases h⟩
end Go.Proofs.YtblcgjadhemlbaaGreat
namespace Go.Proofs.YtblcgjadhemlbaaGreat
open Go.RowKit
set_option linter.unusedVariables false
set_option linter.unusedSimpArgs false
theorem ON {N:Nat}(hN:1000000<N) {a:List Int}(h:a.length≤1000):Bw N a a=some true:=by
 unfold Bw
 rw[decide_eq_false (show ¬(a.length:Int)≠a.length by omega),cond_false]
 exact PE a.length (λn i=>DJ N a a (Eq N) n i) (Eq N) (λn k hk=>by
  simp only[DJ];rw[Eh hk];rfl) (λn k hk=>by
  simp only[DJ]
  rw[Ee hk,cond_true,BI hk,Option.bind_some,Option.bind_some,decide_eq_false (show ¬a[k]≠a[k] by omega),cond_false,BF (by omega)]) N 0 (by omega) (Nat.zero_le _)
theorem UG {N:Nat}(hN:1000000<N) {p:List Int}(hl:p.length≤1000) (h0:∀x∈p,0≤x) (hs:p.sum≤2305843009213693952):GO N p=some p.sum:=by
 unfold GO
 obtain⟨s,⟨i1,i2⟩,e⟩:=DZ p.length (λn i s=>Dg N p (FP N) n s i) (FP N) (λk s=>s=(p.take k).sum∧0≤s) (λn k s hk=>by
  simp only[Dg];rw[Eh hk];rfl) (λn k s hi hk=>by
  obtain⟨i1,i2⟩:=hi
  have h1:=HJ h0 (k+1)
  have h3:=h0 _ (List.getElem_mem hk)
  rw[I4 hk] at h1
  simp only[Dg]
  rw[Ee hk,cond_true,BI hk,Option.bind_some,EF (n:=s+p[k]) (by omega) (by omega),BF (by omega)]
  exact⟨_,⟨by rw[I4 hk,i1],by omega⟩,rfl⟩) N 0 0 ⟨rfl,Int.le_refl _⟩ (by omega) (Nat.zero_le _)
 rw[List.take_length] at i1
 subst i1
 exact e
theorem WA {N W:Nat}(hN:1000000<N) (hW:W≤1000) {a b:List Int}(ha:PX W a) (hb:PX W b):GV N a b=some (Hv a b):=by
 have hal:=ha.len
 have hbl:=hb.len
 unfold GV
 obtain⟨s,i1,e⟩:=DZ a.length (λn i s=>CQ N a b (Do N) n s i) (Do N) (λk s=>s=(Hv a b).take k) (λn k s hk=>by
  simp only[CQ];rw[Eh hk];rfl) (λn k s hi hk=>by
  have hkb:k<b.length:=by omega
  have hkv:k<(Hv a b).length:=by rw[PT hal hbl];omega
  have h1:=ha.mem (List.getElem_mem hk)
  have h2:=hb.mem (List.getElem_mem hkb)
  have hsl:s.length≤1000:=by rw[hi,List.length_take];omega
  simp only[CQ,Fb]
  rw[Ee hk,cond_true,decide_eq_true (show(k:Int)<(b.length:Int) by omega),cond_true,BI hkb,Option.bind_some,BI hk,Option.bind_some,Ia (by omega),EF (n:=a[k]-b[k]) (by omega) (by omega),BF (by omega)]
  refine⟨_,?_,rfl⟩
  rw[List.take_succ_eq_append_getElem hkv,←hi]
  congr 2
  simp [Hv]) N 0 [] (by simp) (by omega) (Nat.zero_le _)
 have:s=Hv a b:=by rw[i1,show a.length=(Hv a b).length by rw[PT hal hbl,hal],List.take_length]
 subst this
 exact e
theorem W2 {N:Nat}{b:AX}{m:Ak}{p:Nat}(hf:m.From=(p:Int)) (hp:p<b.Places.length):GW N b m=some (O4 b m.From.toNat m.Way):=by
 unfold GW O4
 by_cases h:0≤m.Way∧m.Way<b.Links.length
 ·obtain⟨k,hk,hkl⟩:=bK h.1 h.2
  rw[decide_eq_true h.1,decide_eq_true h.2,Bool.and_self,cond_true,if_pos h,hk,BI hkl,Option.bind_some,Int.toNat_natCast,Pq hkl]
 ·have:(decide (0≤m.Way)&&decide (m.Way<(b.Links.length:Int)))=false:=by
   rw[Bool.and_eq_false_iff]
   simp only[decide_eq_false_iff_not]
   by_cases h2:0≤m.Way
   ·exact .inr λh3=>h ⟨h2,h3⟩
   ·exact .inl h2
  rw[this,cond_false,if_neg h]
  by_cases h3:m.Way= -3
  ·rw[decide_eq_true h3,cond_true,if_pos h3]
  ·rw[decide_eq_false h3,cond_false,if_neg h3,hf,BI hp,Option.bind_some,Int.toNat_natCast]
   simp [List.getD_eq_getElem?_getD,hp]
theorem Qi {o:List (List Int)}{l:List Ak}{j:Nat}(h:j<l.length):L9 o (l.take (j+1))=upd (L9 o (l.take j)) (l[j]).From (Hv ((L9 o (l.take j)).getD (l[j]).From.toNat []) (l[j]).Part):=by
 unfold L9;rw[List.take_succ_eq_append_getElem h,List.foldl_append];rfl
theorem Qj {N:Nat}{o:List Int}{l:List Ak}{j:Nat}(h:j<l.length):Pm N o (l.take (j+1))=if (l[j]).To<0 then (DD N (Pm N o (l.take j)) (l[j]).Part).getD [] else Pm N o (l.take j):=by
 unfold Pm;rw[List.take_succ_eq_append_getElem h,List.foldl_append];rfl
theorem N4.at_:∀{l:List Ak}{o:List (List Int)},N4 l o→∀(j:Nat) (h:j<l.length),∃x,(L9 o (l.take j))[(l[j]).From.toNat]? =some x∧TI (l[j]).Part x
 |m::l,o,h,0,_=>h.1
 |m::l,o,h,j+1,hj=>N4.at_ (l:=l) h.2 j (by simpa using hj)
theorem Qh {b:AX}{H:Int}{W:Nat}{o:List (List Int)}{l:List Ak}(ho:I0 b.Places.length W o) (hv:N4 l o) (hm:∀m∈l,∃p,p<b.Places.length∧bN b H W p m):∀j,j≤l.length→I0 b.Places.length W (L9 o (l.take j))
 |0,_=>ho
 |j+1,hj=>by
  have h1:=Qh ho hv hm j (by omega)
  obtain⟨x,hx,hle⟩:=hv.at_ j (by omega)
  obtain⟨p,hp,hmp⟩:=hm _ (List.getElem_mem (show j<l.length by omega))
  rw[Qi (by omega)]
  have hgd:(L9 o (l.take j)).getD (l[j]).From.toNat []=x:=by rw[List.getD_eq_getElem?_getD,hx];rfl
  rw[hgd]
  exact h1.upd _ (hle.sub (h1.all x (List.mem_of_getElem? hx))).1
theorem T7 {H:Int}{W:Nat}:∀{l:List Int}{i:Nat}{m:Ak},m∈RI H W i l→∃(k:Nat) (n:Int),n∈l∧0<n∧m=⟨H, -1,(k:Int), -4,v1 W n⟩
 |[],_,m,h=>by cases h
 |a::l,i,m,h=>by
  rw[RI] at h
  rcases List.mem_append.1 h with h|h
  ·split at h
   ·rename_i h0
    exact⟨i,a,List.mem_cons_self ..,h0,List.mem_singleton.1 h⟩
   ·cases h
  ·obtain⟨k,n,h1,h2,h3⟩:=T7 h
   exact⟨k,n,List.mem_cons_of_mem _ h1,h2,h3⟩
def TH (N:Nat) (p:Nat) (ms:List Ak) (h:List Int):List Int:=ms.foldl (λh m=>if m.To=(p:Int)∧m.Way= -4 then (DD N h m.Part).getD [] else h) h
theorem SY {N p:Nat}{ms:List Ak}{h:List Int}{i:Nat}(hi:i<ms.length):TH N p (ms.take (i+1)) h=if (ms[i]).To=(p:Int)∧(ms[i]).Way= -4 then (DD N (TH N p (ms.take i) h) (ms[i]).Part).getD [] else TH N p (ms.take i) h:=by
 unfold TH;rw[List.take_succ_eq_append_getElem hi,List.foldl_append];rfl
theorem RG {N p:Nat}:∀{ms:List Ak}{h:List Int},(∀m∈ms,¬(m.To=(p:Int)∧m.Way= -4))→TH N p ms h=h
 |[],h,_=>rfl
 |m::ms,h,hn=>by
  show TH N p ms (if m.To=(p:Int)∧m.Way= -4 then (DD N h m.Part).getD [] else h)=h
  rw[if_neg (hn m (List.mem_cons_self ..))]
  exact RG λx hx=>hn x (List.mem_cons_of_mem _ hx)
theorem V0 {H:Int}{W:Nat}:∀{l:List Int}{i:Nat}{m:Ak},m∈RI H W i l→(i:Int)≤m.To
 |[],_,m,h=>by cases h
 |a::l,i,m,h=>by
  rw[RI] at h
  rcases List.mem_append.1 h with h|h
  ·split at h
   ·rw[List.mem_singleton.1 h];exact Int.le_refl _
   ·cases h
  ·have:=V0 h
   omega
theorem T6 {N:Nat}(hN:1000000<N) {W:Nat}(hW1:1≤W) (hW:W≤1000) {H:Int}{p:Nat}{x:List Int}(hx:PX W x):∀{l:List Int}{i:Nat},(∀n∈l,0≤n∧n≤1125899906842624)→i≤p→∀n,l[p-i]? =some n→TH N p (RI H W i l) x=Fp x (v1 W n)
 |[],i,_,_,n,h=>by simp at h
 |a::l,i,hl,hip,n,h=>by
  have ha:=hl a (List.mem_cons_self ..)
  rw[RI]
  unfold TH
  rw[List.foldl_append]
  show TH N p (RI H W (i+1) l) _=_
  by_cases e:i=p
  ·subst e
   rw[Nat.sub_self] at h
   cases h
   rw[RG λm hm=>λhc=>by have:=V0 hm;omega]
   by_cases h0:0<a
   ·rw[if_pos h0]
    show(if ((i:Nat):Int)=(i:Int)∧(-4:Int)= -4 then (DD N x (v1 W a)).getD [] else x)=_
    rw[if_pos ⟨rfl,rfl⟩,hx.padd hN hW (Ty hW1 ha.1 ha.2)];rfl
   ·rw[if_neg h0]
    have:a=0:=by omega
    subst this
    rw[Q4,Mr hx.len];rfl
  ·have e2:(a::l)[p-i]? =l[p-(i+1)]? :=by
    rw[show p-i=(p-(i+1))+1 by omega];rfl
   rw[e2] at h
   have:((if 0<a then [(⟨H, -1,(i:Int), -4,v1 W a⟩:Ak)] else []).foldl (λh m=>if m.To=(p:Int)∧m.Way= -4 then (DD N h m.Part).getD [] else h) x)=x:=by
    refine RG (ms:=if 0<a then [(⟨H, -1,(i:Int), -4,v1 W a⟩:Ak)] else []) λm hm hc=>?_
    split at hm
    ·rw[List.mem_singleton.1 hm] at hc
     have:(i:Int)=(p:Int):=hc.1
     omega
    ·cases hm
   rw[this]
   exact T6 hN hW1 hW hx (λn hn=>hl n (List.mem_cons_of_mem _ hn)) (by omega) n h
theorem M6 {P W:Nat}{t:Int}{q:List Al}(hq:QX P W q) {p:Nat}:∀k,k≤q.length→(Mi W t (q.take k) p).length=W∧∀x∈Mi W t (q.take k) p,0≤x
 |0,_=>⟨by simp [Mi],λx hx=>(PX.zero W).nn x hx⟩
 |k+1,hk=>by
  obtain⟨h1,h2⟩:=M6 hq k (by omega)
  rw[Jq (by omega)]
  split
  ·have h3:=(hq _ (List.getElem_mem (show k<q.length by omega))).1
   exact⟨Kg h1 h3.len,Nf h2 h3.nn⟩
  ·exact⟨h1,h2⟩
theorem Qu {P W:Nat}{t:Int}{q:List Al}(hq:QX P W q) {p:Nat}:∀d k,k+d≤q.length→(Mi W t (q.take k) p).sum≤(Mi W t (q.take (k+d)) p).sum
 |0,k,_=>Int.le_refl _
 |d+1,k,h=>by
  have h1:=Qu (t:=t) (p:=p) hq d k (by omega)
  have h2:=(M6 hq (t:=t) (p:=p) (k+d) (by omega)).1
  have h3:=(hq _ (List.getElem_mem (show k+d<q.length by omega))).1
  rw[←Nat.add_assoc,Jq (by omega)]
  split
  ·rw[HH (h2.trans h3.len.symm)]
   have:=h3.sum0
   omega
  ·exact h1
end Go.Proofs.YtblcgjadhemlbaaGreat
