import Derived.Test.YtibidnaedddfdaaGreatAPureHas
namespace Go.Proofs.YtibidnaedddfdaaGreat
open Go.RowKit
set_option linter.unusedVariables false
set_option linter.unusedSimpArgs false
def Vw (s t:AV) (k:Nat):Bool:=decide (((s.Own[k]?).getD []).sum=((t.Own[k]?).getD []).sum)
def Vx (s t:AV) (k:Nat):Bool:=decide (((s.Gates[k]?).getD default).Pos=((t.Gates[k]?).getD default).Pos)&&(((s.Gates[k]?).getD default).Open==((t.Gates[k]?).getD default).Open)
theorem Sk {s t:AV}{k:Nat}(h:k<s.Own.length) (h':k<t.Own.length):Vw s t k=decide (s.Own[k].sum=t.Own[k].sum):=by
 unfold Vw;rw[List.getElem?_eq_getElem h,List.getElem?_eq_getElem h'];rfl
theorem Sm {s t:AV}{k:Nat}(h:k<s.Gates.length) (h':k<t.Gates.length):Vx s t k=(decide (s.Gates[k].Pos=t.Gates[k].Pos)&&(s.Gates[k].Open==t.Gates[k].Open)):=by
 unfold Vx;rw[List.getElem?_eq_getElem h,List.getElem?_eq_getElem h'];rfl
def YS (b:AJ) (s t:AV):Prop:=((s.Hour=t.Hour∧∀k,k<b.Places.length→Vw s t k=true)∧∀k,k<b.Links.length→Vx s t k=true)∧UA s.Queue t.Queue
theorem VD (x n:Int):(decide (x≤n)&&decide (n≤x))=decide (x=n):=by
 rw[Bool.eq_iff_iff];simp only[Bool.and_eq_true,decide_eq_true_eq];omega
theorem RG {α}(b:Bool) (x y:α):cond (!b) x y=cond b y x:=by cases b<;>rfl
theorem S3 {N:Nat}(hN:2000000<N) {b:AJ}(hb:FE b) {s t:AV}(h:EK b s) (ht:EK b t) (hq:s.Queue.length≤500) (hq':t.Queue.length≤500) {q:List Ay}(k:QI s.Queue q):∃v,Gi N b (CR s q) t=some v∧(v=true↔YS b s t):=by
 have hpl:=hb.pl
 have hli:=hb.li
 have hlo:=h.own
 have hlg:=h.gat
 have hlo':=ht.own
 have hlg':=ht.gat
 unfold Gi
 by_cases hH:s.Hour=t.Hour
 ·generalize hB:(_||decide (((t.Gates.length:Nat):Int)≠(((CR s q).Links.length:Nat):Int)))=B
  have:B=false:=by
   rw[←hB]
   simp only[List.length_map,Bool.or_eq_false_iff,decide_eq_false_iff_not];omega
  rw[this,cond_false]
  rcases Nb s.Own.length (λn i=>EH N (CR s q) t (EJ N (CR s q) t) n i) (EJ N (CR s q) t) (Vw s t) (λn i hi=>by
   simp only[EH,List.length_map];rw[EO hi];rfl) (λn i hi=>by
   have hi':i<t.Own.length:=by omega
   have hp:=(ht.pools _ (List.getElem_mem hi'))
   simp only[EH,List.length_map]
   rw[EN hi,cond_true,A9 (l:=s.Own.map λp=>QD p.sum) (by simpa using hi),A9 hi',Az (by omega)]
   simp only[Option.bind_some,List.getElem_map]
   rw[Hc hp.1 (by omega) (by omega)]
   simp only[Option.bind_some,D9,VD,RG]
   rw[Sk hi hi']) N 0 (by omega) (Nat.zero_le _) with ⟨a1,a2⟩|⟨⟨i,_,a1,a3⟩,a2⟩
  ·have a2:EH N (CR s q) t (EJ N (CR s q) t) N 0=EJ N (CR s q) t:=a2
   rw[a2]
   unfold EJ
   rcases Nb s.Gates.length (λn i=>EG N (CR s q) t (EI N (CR s q) t) n i) (EI N (CR s q) t) (Vx s t) (λn i hi=>by
    simp only[EG,List.length_map];rw[EO hi];rfl) (λn i hi=>by
    have hi':i<t.Gates.length:=by omega
    simp only[EG,List.length_map]
    rw[EN hi,cond_true,A9 (l:=s.Gates.map Xj) (by simpa using hi),A9 hi',Az (by omega)]
    simp only[Option.bind_some,List.getElem_map,T5,D9,VD,C2,RG]
    rw[Sm hi hi']
    cases decide ((s.Gates[i]).Pos=(t.Gates[i]).Pos)<;>cases (s.Gates[i]).Open<;>cases (t.Gates[i]).Open<;>rfl) N 0 (by omega) (Nat.zero_le _) with ⟨b1,b2⟩|⟨⟨i,_,b1,b3⟩,b2⟩
   ·have b2:EG N (CR s q) t (EI N (CR s q) t) N 0=EI N (CR s q) t:=b2
    rw[b2]
    unfold EI
    obtain⟨v,c1,c2⟩:=Ui hN h ht hq hq' k
    rw[c1]
    refine⟨v,rfl,c2.trans ⟨λc=>⟨⟨⟨hH,λi hi=>a1 i (Nat.zero_le _) (by omega)⟩,λi hi=>b1 i (Nat.zero_le _) (by omega)⟩,c⟩,λc=>c.2⟩⟩
   ·refine⟨false,b2,λe=>(by cases e),λc=>?_⟩
    have:=c.1.2 i (by omega)
    rw[this] at b3;cases b3
  ·refine⟨false,a2,λe=>(by cases e),λc=>?_⟩
   have:=c.1.1.2 i (by omega)
   rw[this] at a3;cases a3
 ·refine⟨false,?_,λe=>(by cases e),λc=>absurd c.1.1.1 hH⟩
  rw[show decide ((CR s q).Hour≠t.Hour)=true from decide_eq_true hH]
  simp only[Bool.true_or,cond_true]
theorem Rb (b:AJ) (s:AV):YS b s s:=⟨⟨⟨rfl,λk _=>by simp [Vw]⟩,λk _=>by simp [Vx]⟩,λx _=>rfl⟩
theorem Lx {N:Nat}(hN:2000000<N) {b:AJ}{s:AV}(h:EK b s) (hq:s.Queue.length≤500) (a t:Int):D0 N s a t=some (G4 s.Queue a t):=by
 have h1:=QB h a t
 unfold D0
 obtain⟨x,i1,h1⟩:=HE s.Queue.length (λn i x=>BH N s a t (BT N) n x i) (BT N) (λk x=>x=G4 (s.Queue.take k) a t) (λn k x hk=>by
  simp only[BH];rw[EO hk];rfl) (λn k x hi hk=>by
  have hL:=h.queue _ (List.getElem_mem hk)
  have hpl:=hL.plen
  have u1:=NE (s.Queue.take k) s.Queue[k] a t
  rw[←List.take_succ_eq_append_getElem hk] at u1
  have hnn:∀y∈s.Queue.take (k+1),0≤y.Part.sum:=λy hy=>h.nn y (List.mem_of_mem_take hy)
  have u2:=OZ hnn a t
  have u3:=Lg hnn a t
  have u4:(LP (s.Queue.take (k+1))).sum≤(LP s.Queue).sum:=by
   unfold LP
   rw[List.map_take]
   exact(IA (λy hy=>by obtain⟨z,hz,rfl⟩:=List.mem_map.1 hy;exact h.nn z hz) _).2
  have u5:=h.tot
  have u6:=h.ownle
  unfold MV at u5
  refine⟨_,rfl,?_⟩
  subst hi
  simp only[BH,Dt]
  rw[EN hk,cond_true,A9 hk,Az (by omega)]
  simp only[Option.bind_some,C2]
  by_cases hc:(s.Queue[k]).At=a∧(s.Queue[k]).To=t
  ·rw[if_pos hc] at u1
   rw[show cond (decide ((s.Queue[k]).At=a)) (decide ((s.Queue[k]).To=t)) false=true by rw[decide_eq_true hc.1,decide_eq_true hc.2];rfl]
   simp only[cond_true]
   rw[Hc hL.part (by omega) (by omega)]
   simp only[Option.bind_some]
   rw[←u1,E6 (by omega) (by omega)]
  ·rw[if_neg hc,Int.add_zero] at u1
   rw[show cond (decide ((s.Queue[k]).At=a)) (decide ((s.Queue[k]).To=t)) false=false by rw[Js,Bool.and_eq_false_iff,decide_eq_false_iff_not,decide_eq_false_iff_not];omega]
   simp only[cond_false]
   rw[u1]) N 0 0 (by simp [UO]) (by omega) (Nat.zero_le _)
 have h1:BH N s a t (BT N) N 0 0=BT N x:=h1
 rw[h1]
 rw[List.take_length] at i1
 rw[i1];rfl
def Yi (s t:AV) (l:E0):Bool:=decide (G4 s.Queue l.At l.To=G4 t.Queue l.At l.To)
theorem Ny {P:Nat→Bool}{A:Prop}{k:Nat}{x y:Bool}(h:x=true↔A∧∀i,i<k→P i=true) (hy:y=(x&&P k)):y=true↔A∧∀i,i<k+1→P i=true:=by
 subst hy
 rw[Bool.and_eq_true,h]
 constructor
 ·rintro⟨⟨a,b⟩,c⟩
  refine⟨a,λi hi=>?_⟩
  by_cases e:i=k
  ·subst e;exact c
  ·exact b i (by omega)
 ·rintro⟨a,b⟩
  exact⟨⟨a,λi hi=>b i (by omega)⟩,b k (by omega)⟩
theorem WB {N:Nat}(hN:2000000<N) {b:AJ}(hb:FE b) {s t:AV}(h:EK b s) (ht:EK b t) (kj:Bool→Option Bool) {x:Bool}{A:Prop}(hx:x=true↔A):∃y,BJ N b s t kj N x 0=kj y∧(y=true↔A∧∀k,k<b.Places.length→Vw s t k=true):=by
 have hpl:=hb.pl
 have hlo:=h.own
 have hlo':=ht.own
 obtain⟨y,i1,h1⟩:=HE b.Places.length (λn i x=>BJ N b s t kj n x i) kj (λk x=>x=true↔A∧∀i,i<k→Vw s t i=true) (λn k x hk=>by
  simp only[BJ];rw[EO hk];rfl) (λn k x hi hk=>by
  have hk1:k<s.Own.length:=by omega
  have hk2:k<t.Own.length:=by omega
  have hp:=h.pools _ (List.getElem_mem hk1)
  have hp':=ht.pools _ (List.getElem_mem hk2)
  refine⟨_,Ny hi rfl,?_⟩
  simp only[BJ]
  rw[EN hk,cond_true,A9 hk1,A9 hk2,Az (by omega)]
  simp only[Option.bind_some]
  rw[Hc hp.1 (by omega) (by omega),Hc hp'.1 (by omega) (by omega),Sk hk1 hk2]
  simp only[Option.bind_some,C2,Js]) N 0 x (hx.trans ⟨λa=>⟨a,λi hi=>absurd hi (Nat.not_lt_zero _)⟩,λa=>a.1⟩) (by omega) (Nat.zero_le _)
 exact⟨y,h1,i1⟩
theorem WA {N:Nat}(hN:2000000<N) {b:AJ}(hb:FE b) {s t:AV}(h:EK b s) (ht:EK b t) (kj:Bool→Option Bool) {x:Bool}{A:Prop}(hx:x=true↔A):∃y,BI N b s t kj N x 0=kj y∧(y=true↔A∧∀k,k<b.Links.length→Vx s t k=true):=by
 have hli:=hb.li
 have hlg:=h.gat
 have hlg':=ht.gat
 obtain⟨y,i1,h1⟩:=HE b.Links.length (λn i x=>BI N b s t kj n x i) kj (λk x=>x=true↔A∧∀i,i<k→Vx s t i=true) (λn k x hk=>by
  simp only[BI];rw[EO hk];rfl) (λn k x hi hk=>by
  have hk1:k<s.Gates.length:=by omega
  have hk2:k<t.Gates.length:=by omega
  refine⟨_,Ny hi rfl,?_⟩
  simp only[BI]
  rw[EN hk,cond_true,A9 hk1,A9 hk2,Az (by omega)]
  simp only[Option.bind_some]
  rw[Sm hk1 hk2]
  simp only[Option.bind_some,C2,Js,Bool.and_assoc]) N 0 x (hx.trans ⟨λa=>⟨a,λi hi=>absurd hi (Nat.not_lt_zero _)⟩,λa=>a.1⟩) (by omega) (Nat.zero_le _)
 exact⟨y,h1,i1⟩
theorem V9 {N:Nat}(hN:2000000<N) {b:AJ}{s t:AV}(h:EK b s) (ht:EK b t) (hq:s.Queue.length≤500) (hq':t.Queue.length≤500) (kj:Bool→Option Bool) {x:Bool}{A:Prop}(hx:x=true↔A):∃y,A4 N s t kj N x 0=kj y∧(y=true↔A∧UA s.Queue t.Queue):=by
 have hl:Ar ((s.Queue.length:Int)+(t.Queue.length:Int))=((s.Queue.length+t.Queue.length:Nat):Int):=by rw[E6 (by omega) (by omega)];rfl
 obtain⟨y,i1,h1⟩:=HE (s.Queue.length+t.Queue.length) (λn i x=>A4 N s t kj n x i) kj (λk x=>x=true↔A∧∀i,i<k→((((s.Queue++t.Queue)[i]?).map (Yi s t)).getD true)=true) (λn k x hk=>by
  simp only[A4];rw[hl,EO hk];rfl) (λn k x hi hk=>by
  refine⟨_,Ny hi rfl,?_⟩
  simp only[A4,Cq]
  rw[hl,EN hk,cond_true,Az (by omega)]
  by_cases hk1:k<s.Queue.length
  ·rw[EN hk1,cond_true,A9 hk1,List.getElem?_append_left hk1,List.getElem?_eq_getElem hk1]
   simp only[Option.bind_some]
   rw[Lx hN h hq,Lx hN ht hq']
   simp only[Option.bind_some,C2,Js]
   rfl
  ·have hk2:k-s.Queue.length<t.Queue.length:=by omega
   rw[EO (by omega),cond_false,show Ar ((k:Int)-(s.Queue.length:Int))=((k-s.Queue.length:Nat):Int) by rw[E6 (by omega) (by omega)];omega,A9 hk2,List.getElem?_append_right (by omega),List.getElem?_eq_getElem hk2]
   simp only[Option.bind_some]
   rw[Lx hN h hq,Lx hN ht hq']
   simp only[Option.bind_some,C2,Js]
   rfl) N 0 x (hx.trans ⟨λa=>⟨a,λi hi=>absurd hi (Nat.not_lt_zero _)⟩,λa=>a.1⟩) (by omega) (Nat.zero_le _)
 refine⟨y,h1,i1.trans (and_congr_right λ_=>?_)⟩
 constructor
 ·intro g x hx
  have hm:x∈s.Queue++t.Queue:=List.mem_append.2 hx
  obtain⟨i,hi,e⟩:=List.getElem_of_mem hm
  have:=g i (by simpa using hi)
  rw[List.getElem?_eq_getElem hi,e] at this
  simpa [Yi] using this
 ·intro g i hi
  have hi':i<(s.Queue++t.Queue).length:=by simpa using hi
  rw[List.getElem?_eq_getElem hi']
  have:=g _ (List.mem_append.1 (List.getElem_mem hi'))
  simpa [Yi] using this
theorem Tf {N:Nat}(hN:18446744073709551616<N) (hs:En N=some true) (b:AJ) (s t:AV):Dh N b s t=some true:=by
 have hN2:2000000<N:=by omega
 unfold Dh
 rw[hs]
 simp only[Option.bind_some]
 have hf:∃y,Fe N b (⟨0,[],[],[]⟩:Aq) (⟨[],[],[],[],[]⟩:DF)=some y:=by
  unfold Fe
  cases (((decide (6<((b.Places.length:Nat):Int))||decide (6<((b.Links.length:Nat):Int)))||decide (4<((b.Owners.length:Nat):Int)))||decide (16<(((⟨0,[],[],[]⟩:Aq).Queue.length:Nat):Int)))
  ·exact⟨_,rfl⟩
  ·exact⟨_,rfl⟩
 obtain⟨y,hy⟩:=hf
 rw[hy]
 simp only[Option.bind_some]
 cases hc:((!y||decide (12<((s.Queue.length:Nat):Int)))||decide (12<((t.Queue.length:Nat):Int))) with
 |true=>rfl
 |false=>
  simp only[Bool.or_eq_false_iff,decide_eq_false_iff_not] at hc
  have hq:s.Queue.length≤500:=by omega
  have hq':t.Queue.length≤500:=by omega
  simp only[cond_false]
  obtain⟨v,e1,e2⟩:=Sf hN b
  rw[e1]
  simp only[Option.bind_some]
  cases v with
  |false=>rfl
  |true=>
   have hb:=(e2 rfl).head
   obtain⟨v,e3,e4⟩:=OF (N:=N) (by omega) b hb s (by omega)
   simp only[Bool.not_true,cond_false]
   rw[e3]
   simp only[Option.bind_some]
   cases v with
   |false=>rfl
   |true=>
    have h:=e4 rfl
    obtain⟨v,e5,e6⟩:=OF (N:=N) (by omega) b hb t (by omega)
    simp only[Bool.not_true,cond_false]
    rw[e5]
    simp only[Option.bind_some]
    cases v with
    |false=>rfl
    |true=>
     have ht:=e6 rfl
     obtain⟨q,o1,k⟩:=Xd hN2 hb h hq
     simp only[Bool.not_true,cond_false]
     rw[o1]
     simp only[Option.bind_some]
     rw[QO hN2 hb h hq k]
     simp only[Option.bind_some,Bool.not_true,cond_false]
     obtain⟨v,g1,g2⟩:=S3 hN2 hb h h hq hq k
     rw[g1,g2.2 (Rb b s)]
     simp only[Option.bind_some,Bool.not_true,cond_false]
     rw[UM hN2 hb h hq k]
     simp only[Option.bind_some]
     rw[show decide ((0:Int)≠0)=false from rfl,cond_false]
     obtain⟨y1,l1,m1⟩:=WB hN2 hb h ht (B8 N b s t true (CR s q)) (x:=decide (s.Hour=t.Hour)) (A:=s.Hour=t.Hour) (by simp)
     rw[l1]
     unfold B8
     obtain⟨y2,l2,m2⟩:=WA hN2 hb h ht (B7 N b s t true (CR s q)) m1
     rw[l2]
     unfold B7
     obtain⟨y3,l3,m3⟩:=V9 hN2 h ht hq hq' (Ba N b t true (CR s q)) m2
     rw[l3]
     unfold Ba
     obtain⟨v,g3,g4⟩:=S3 hN2 hb h ht hq hq' k
     rw[g3]
     have:v=y3:=by
      rw[Bool.eq_iff_iff,g4,m3]
      exact Iff.rfl
     subst this
     simp only[Option.bind_some,cond_true,beq_self_eq_true]
end Go.Proofs.YtibidnaedddfdaaGreat
