import Derived.Test.YtibidnaedddfdaaGreatBPureHAdd
namespace Go.Proofs.YtibidnaedddfdaaGreat
open Go.RowKit
set_option linter.unusedVariables false
set_option linter.unusedSimpArgs false
def Vq (s:Int×Int×Bool):Prop:=s.2.2=true→0≤s.1∧s.1≤s.2.1∧s.2.1≤1
theorem Te (N:Nat) {i j:Int}{b:Bool}(h:Vq (i,j,b)) {a:Int}(ha:0≤a∧a≤1) (kj:Int→Int→Bool→Option (Bool×(Int×Int×Bool))):∃i' j',E8 N i j b kj a=kj i' j' true∧Vq (i',j',true):=by
 unfold E8
 cases b
 ·exact⟨a,a,rfl,λ_=>⟨ha.1,Int.le_refl _,ha.2⟩⟩
 ·obtain⟨h1,h2,h3⟩:=h rfl
  have h1:0≤i:=h1
  have h2:i≤j:=h2
  have h3:j≤1:=h3
  exact⟨min i a,max j a,rfl,λ_=>⟨by show 0≤min i a;omega,by show min i a≤max j a;omega,by show max j a≤1;omega⟩⟩
theorem R9 (N:Nat) (l:AT) (g:Be) (v:Int):∃y,Gl N l g v=some y:=by
 unfold Gl Ej
 exact Df.cond (λ_=>Df.mk _) λ_=>Df.cond (λ_=>Df.mk _) λ_=>Df.cond (λ_=>Df.mk _) λ_=>Df.mk _
theorem Wu {N:Nat}(hN:10<N) (l:AT) (k:AS) (x:Int) {i j:Int}{b:Bool}(h:Vq (i,j,b)):∃s,EZ N l k x i j b=some (true,s)∧Vq s:=by
 unfold EZ
 obtain⟨s,h1,h2⟩:=GJ 2 (λn m s=>B0 N l k x n m s.1 s.2.1 s.2.2) (λs=>some (true,s)) (λ_ s=>Vq s) (λn m s hm=>by
  simp only[B0]
  rw[decide_eq_false (show ¬(m:Int)<2 by omega)]
  rfl) (λn m s hi hm=>by
  simp only[B0]
  rw[decide_eq_true (show(m:Int)<2 by omega),cond_true]
  simp only[EY,Option.bind_some,Cu,Au (show m<4611686018427387904 by omega)]
  cases (decide (k.Open.Lo≤(m:Int))&&decide ((m:Int)≤k.Open.Hi))
  ·exact⟨s,hi,rfl⟩
  ·obtain⟨y,ey⟩:=R9 N l (⟨0,0,false,(decide ((m:Int)=1))⟩:Be) x
   rw[ey]
   simp only[Bool.not_true,cond_false,Option.bind_some]
   cases y.Open
   ·obtain⟨i',j',e,o⟩:=Te N (i:=s.1) (j:=s.2.1) (b:=s.2.2) hi (a:=0) (by decide) (Cu N (m:Int) (B0 N l k x n))
    refine⟨(i',j',true),o,Eq.trans e ?_⟩
    unfold Cu
    rw[Au (by omega)]
   ·obtain⟨i',j',e,o⟩:=Te N (i:=s.1) (j:=s.2.1) (b:=s.2.2) hi (a:=1) (by decide) (Cu N (m:Int) (B0 N l k x n))
    refine⟨(i',j',true),o,Eq.trans e ?_⟩
    unfold Cu
    rw[Au (by omega)]) N 0 (i,j,b) h (by omega) (Nat.zero_le _)
 exact⟨s,h2,h1⟩
theorem Qi {N:Nat}(c:AF) (l:AT) (yld:Int→(Int×Int×Bool)→Option (Bool×(Int×Int×Bool))) (hy:∀x s,Vq s→∃s',yld x s=some (true,s')∧Vq s') {s:Int×Int×Bool}(hs:Vq s):∃s',Fc N c l yld s=some (true,s')∧Vq s':=by
 unfold Fc
 simp only[Cp,EY,Option.bind_some]
 cases decide (c.Lo≤c.Hi)
 ·exact⟨s,rfl,hs⟩
 ·simp only[Bool.not_true,cond_false]
  obtain⟨s1,e1,o1⟩:=hy c.Lo s hs
  obtain⟨s2,e2,o2⟩:=hy c.Hi s1 o1
  obtain⟨s3,e3,o3⟩:=hy (A3 (l.Break+1)) s2 o2
  rw[e1]
  simp only[Option.bind_some,cond_true]
  rw[e2]
  simp only[Option.bind_some,cond_true,Dx]
  rw[e3]
  simp only[Option.bind_some,cond_true]
  cases cond (decide (l.Break<9223372036854775807)) (decide (c.Lo≤A3 (l.Break+1))&&decide (A3 (l.Break+1)≤c.Hi)) false
  ·exact⟨s2,rfl,o2⟩
  ·exact⟨s3,rfl,o3⟩
theorem Td {N:Nat}(hN:10<N) (l:AT) {k:AS}(hk:Np l k) (v:AF):∃k',HH N l k v=some k'∧Np l k':=by
 unfold HH
 by_cases h3:l.Kind=3
 ·rw[show decide (l.Kind≠3)=false by simp [h3],cond_false]
  simp only[HG,Option.bind_some]
  obtain⟨s,e,o⟩:=Qi (N:=N) v l (λxx ss=>EZ N l k xx ss.1 ss.2.1 ss.2.2) (λx s hs=>Wu hN l k x hs) (s:=(0,0,false)) (λh=>by cases h)
  rw[e]
  simp only[Option.bind_some,cond_true,F2]
  obtain⟨i,j,b⟩:=s
  cases b
  ·exact⟨_,rfl,hk.pos,hk.tgt,hk.opn⟩
  ·obtain⟨o1,o2,o3⟩:=o rfl
   have o1:0≤i:=o1
   have o2:i≤j:=o2
   have o3:j≤1:=o3
   refine⟨_,rfl,hk.pos,hk.tgt,?_⟩
   have hc:(i=0∧j=0)∨(i=1∧j=1)∨(i=0∧j=1):=by omega
   rcases hc with ⟨rfl,rfl⟩|⟨rfl,rfl⟩|⟨rfl,rfl⟩
   ·exact .inl rfl
   ·exact .inr ⟨.inr h3,.inl rfl⟩
   ·exact .inr ⟨.inr h3,.inr rfl⟩
 ·rw[show decide (l.Kind≠3)=true by simp [h3],cond_true]
  exact⟨k,rfl,hk⟩
def U4 (s:AF):Prop:=0≤s.Lo∧s.Lo≤s.Hi∧s.Hi≤9223372036854775807
theorem Gf.n {s:AF}(h:Gf s):U4 s:=by obtain⟨h1,h2,h3⟩:=h;exact⟨h1,h2,by omega⟩
theorem PX (N:Nat) {a b:AF}(ha:U4 a) (hb:U4 b):∃c,Fl N a b=some c∧U4 c:=by
 obtain⟨a1,a2,a3⟩:=ha
 obtain⟨b1,b2,b3⟩:=hb
 unfold Fl
 rw[Vk N (by unfold AB;omega) (by unfold AB;omega),Option.bind_some,Vk N (by unfold AB;omega) (by unfold AB;omega),Option.bind_some,TT a1 b1,TT (by omega) (by omega)]
 exact⟨_,rfl,by show 0≤min _ _;omega,by show min _ _≤min _ _;omega,by show min _ _≤_;omega⟩
def IY (P:AF→Prop) (n:Nat) (l:List AF):Prop:=l.length=n∧∀x∈l,P x
theorem IY.set {P:AF→Prop}{n:Nat}{l:List AF}(h:IY P n l) (k:Nat) {x:AF}(hx:P x):IY P n (l.set k x):=
 ⟨by simp [h.1],λy hy=>(List.mem_or_eq_of_mem_set hy).elim (h.2 y) λe=>e▸hx⟩
theorem MU.filt {P:Nat}{t:Int}{q:List A4}(k:MU P t q) {r:List A4}(hr:r.Sublist q) (h:∀e∈r,t+1≤e.At):MU P (t+1) r:=
 ⟨List.Pairwise.sublist hr k.srt,λe he=>by
  obtain⟨a,b,_,c⟩:=k.el e (hr.subset he)
  exact⟨a,b,h e he,c⟩⟩
theorem QE {N:Nat}(hN:18446744073709551616<N) {w:Ah}{b:AK}(hwb:w.b=b) (hb:OP N b) (hv:w.h.Vol.length=b.Places.length) (hvs:∀v∈w.h.Vol,Gf v) {t:Int}(ht:w.h.Hour=t) (hq:MU b.Places.length t w.h.Queue) (hql:w.h.Queue.length≤100000) (hk:IZ b w.h.Links) (hp:w.peaks.length=b.Places.length) (hp0:∀x∈w.peaks,x=⟨0,0⟩) {rain:List AF}(hr:∀s∈rain,AB s.Lo∧AB s.Hi):
  ∃q l p,EQ N w rain=some (q,l,p)∧MU b.Places.length (t+1) q∧q.length≤w.h.Queue.length∧IZ b l∧IY Gf b.Places.length p:=by
 subst hwb
 subst ht
 have hpl:=hb.head.pl
 have hli:=hb.head.li
 unfold EQ
 have start:IY U4 w.b.Places.length w.peaks:=⟨hp,λx hx=>by rw[hp0 x hx];exact⟨by decide,by decide,by decide⟩⟩
 obtain⟨p1,i1,e1⟩:=GJ w.h.Vol.length (λn i l=>Am N w rain (Av N w) n i l) (Av N w) (λ_ l=>IY U4 w.b.Places.length l) (λn k l hk=>by
  simp only[Am];rw[EK hk];rfl) (λn k l hi hk=>by
  have hk2:k<l.length:=by rw[hi.1];omega
  have hV:=hvs _ (List.getElem_mem hk)
  have nxt:∀a c:Int,C9 N (k:Int) l (Am N w rain (Av N w) n) a c=Am N w rain (Av N w) n ((k+1:Nat):Int) (l.set k ⟨a,c⟩):=λa c=>by
   unfold C9
   rw[Aw hk2]
   simp only[Option.bind_some,Au (show k<4611686018427387904 by omega),QR]
  simp only[Am]
  rw[EJ hk,cond_true,Aw hk]
  simp only[Option.bind_some,nxt]
  generalize w.h.Vol[k]=v at hV
  by_cases h:k<rain.length
  ·rw[EJ h,cond_true,Aw h]
   simp only[Option.bind_some,Cp]
   have hR:=hr _ (List.getElem_mem h)
   generalize rain[k]=r at hR
   obtain⟨⟨r1,r2⟩,r3,r4⟩:=hR
   by_cases c1:r.Lo≤r.Hi∧0≤r.Lo
   ·rw[decide_eq_true c1.1,decide_eq_true c1.2]
    simp only[cond_true,Option.bind_some]
    obtain⟨c,ec,hc⟩:=PX N hV.n (show U4 r from⟨c1.2,c1.1,r4⟩)
    rw[ec,Option.bind_some]
    exact⟨_,hi.set k (x:=⟨c.Lo,c.Hi⟩) hc,rfl⟩
   ·have e:Option.bind (cond (decide (r.Lo≤r.Hi)) (some (decide (0≤r.Lo))) (some false)) (λb47=>cond b47 (Option.bind (Fl N v r) λy71=>Am N w rain (Av N w) n ((k+1:Nat):Int) (l.set k ⟨y71.Lo,y71.Hi⟩)) (Am N w rain (Av N w) n ((k+1:Nat):Int) (l.set k ⟨v.Lo,v.Hi⟩)))=Am N w rain (Av N w) n ((k+1:Nat):Int) (l.set k ⟨v.Lo,v.Hi⟩):=by
     by_cases c2:r.Lo≤r.Hi
     ·rw[decide_eq_true c2,decide_eq_false (λc3=>c1 ⟨c2,c3⟩)];rfl
     ·rw[decide_eq_false c2];rfl
    rw[e]
    exact⟨_,hi.set k (x:=⟨v.Lo,v.Hi⟩) hV.n,rfl⟩
  ·rw[EK (by omega)]
   exact⟨_,hi.set k (x:=⟨v.Lo,v.Hi⟩) hV.n,rfl⟩) N 0 w.peaks start (by omega) (Nat.zero_le _)
 rw[show Am N w rain (Av N w) N 0 w.peaks=Av N w p1 from e1]
 unfold Av
 obtain⟨⟨q2,p2⟩,⟨i2,s2,a2⟩,e2⟩:=GJ w.h.Queue.length (λn i (s:List A4×List AF)=>BT N w (Bd N w) n s.1 i s.2) (λs=>Bd N w s.1 s.2) (λk s=>IY U4 w.b.Places.length s.2∧s.1.Sublist (w.h.Queue.take k)∧∀e∈s.1,w.h.Hour+1≤e.At) (λn k s hk=>by
  simp only[BT];rw[EK hk];rfl) (λn k s hi hk=>by
  obtain⟨h1,h2,h3⟩:=hi
  obtain⟨v1,v2,v3,v4,v5⟩:=hq.el _ (List.getElem_mem hk)
  have hlen:=h2.length_le
  rw[List.length_take] at hlen
  have hts:∀r:List A4,r.Sublist (w.h.Queue.take k)→r.Sublist (w.h.Queue.take (k+1)):=λr hr=>hr.trans (by rw[List.take_succ_eq_append_getElem hk];exact List.sublist_append_left _ _)
  have hts2:(s.1++[w.h.Queue[k]]).Sublist (w.h.Queue.take (k+1)):=by rw[List.take_succ_eq_append_getElem hk];exact h2.append (List.Sublist.refl _)
  simp only[BT]
  rw[EJ hk,cond_true,Aw hk]
  simp only[Option.bind_some,Du,Au (show k<4611686018427387904 by omega)]
  generalize hx:w.h.Queue[k]=x at v1 v2 v3 v4 v5 hts2
  by_cases ha:x.At≤w.h.Hour
  ·obtain⟨y,ey,ey2⟩:=U2 (l:=s.2) (i:=x.To) v4 (by rw[h1.1];exact v5)
   obtain⟨c,ec,hc⟩:=PX N (h1.2 y (List.mem_of_getElem? ey2)) v1.n
   rw[decide_eq_true ha]
   simp only[cond_true,ey,ec,Option.bind_some]
   exact⟨(s.1,upd s.2 x.To c),⟨h1.set _ hc,hts _ h2,h3⟩,rfl⟩
  ·rw[decide_eq_false ha,cond_false,MC (by omega)]
   refine⟨(s.1++[x],s.2),⟨h1,hts2,λe he=>?_⟩,rfl⟩
   rcases List.mem_append.1 he with he|he
   ·exact h3 e he
   ·rw[List.mem_singleton.1 he];omega) N 0 ([],p1) ⟨i1,by simp,λe he=>by cases he⟩ (by omega) (Nat.zero_le _)
 rw[show BT N w (Bd N w) N [] 0 p1=Bd N w q2 p2 from e2]
 rw[List.take_length] at s2
 have s2:q2.Sublist w.h.Queue:=s2
 have i2:IY U4 w.b.Places.length p2:=i2
 unfold Bd
 have hp2:=i2.1
 obtain⟨p3,⟨i3,j3⟩,e3⟩:=GJ p2.length (λn i l=>Bl N p2 (Bm N w q2) n i l) (Bm N w q2) (λk l=>IY U4 w.b.Places.length l∧∀i,i<k→∀x,l[i]? =some x→Gf x) (λn k l hk=>by
  simp only[Bl];rw[EK hk];rfl) (λn k l hi hk=>by
  obtain⟨h1,h2⟩:=hi
  have hk2:k<l.length:=by rw[h1.1];omega
  obtain⟨x1,x2,x3⟩:=h1.2 _ (List.getElem_mem hk2)
  simp only[Bl]
  rw[EJ hk,cond_true,Aw hk2]
  simp only[Option.bind_some,Qf,Au (show k<4611686018427387904 by omega),QR]
  have hS:Gf ⟨min (l[k]).Lo 1125899906842624,min (l[k]).Hi 1125899906842624⟩:=⟨by show 0≤min _ _;omega,by show min _ _≤min _ _;omega,by show min _ _≤_;omega⟩
  refine⟨_,⟨h1.set k hS.n,λi hi x hx=>?_⟩,rfl⟩
  by_cases e:k=i
  ·subst e
   rw[List.getElem?_set_self hk2] at hx
   cases hx
   exact hS
  ·rw[List.getElem?_set_ne e] at hx
   exact h2 i (by omega) x hx) N 0 p2 ⟨i2,λi hi=>by omega⟩ (by omega) (Nat.zero_le _)
 rw[show Bl N p2 (Bm N w q2) N 0 p2=Bm N w q2 p3 from e3]
 have hP3:IY Gf w.b.Places.length p3:=⟨i3.1,λx hx=>by
  obtain⟨i,hi⟩:=List.mem_iff_getElem?.1 hx
  have:=(List.getElem?_eq_some_iff.1 hi).1
  exact j3 i (by have:=i3.1;omega) x hi⟩
 unfold Bm
 obtain⟨l4,i4,e4⟩:=GJ w.b.Links.length (λn i l=>Bc N w q2 p3 n i l) (λl=>some (q2,l,p3)) (λ_ l=>IZ w.b l) (λn k l hk=>by
  simp only[Bc];rw[EK hk];rfl) (λn k l hi hk=>by
  have hk2:k<l.length:=by rw[hi.1];exact hk
  have ok:=hb.links _ (List.getElem_mem hk)
  have hK:=hi.2 k _ _ (List.getElem?_eq_getElem hk) (List.getElem?_eq_getElem hk2)
  simp only[Bc]
  rw[EJ hk,cond_true,Aw hk]
  simp only[Option.bind_some,Dt,Au (show k<4611686018427387904 by omega)]
  by_cases h3:(w.b.Links[k]).Kind=3
  ·obtain⟨y,ey,_⟩:=U2 (l:=p3) (i:=(w.b.Links[k]).From) ok.fr.1 (by rw[hP3.1];exact ok.fr.2)
   obtain⟨k',ek,hk'⟩:=Td (N:=N) (by omega) _ hK y
   rw[decide_eq_true h3,cond_true,Aw hk2]
   simp only[ey,ek,Option.bind_some,QR]
   exact⟨_,hi.set λa2 ha2=>by rw[List.getElem?_eq_getElem hk] at ha2;cases ha2;exact hk',rfl⟩
  ·rw[decide_eq_false h3,cond_false]
   exact⟨_,hi,rfl⟩) N 0 w.h.Links hk (by omega) (Nat.zero_le _)
 exact⟨q2,l4,p3,e4,hq.filt s2 a2,s2.length_le,i4,hP3⟩
end Go.Proofs.YtibidnaedddfdaaGreat
