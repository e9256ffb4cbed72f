import Derived.Test.YtibidnaedddfdaaGreatCPureSlope
namespace Go.Proofs.YtibidnaedddfdaaGreat
open Go.RowKit
set_option linter.unusedVariables false
set_option linter.unusedSimpArgs false
def Ge (s:AD):Prop:=0≤s.Lo∧s.Lo≤s.Hi∧s.Hi≤1125899906842624
structure MB (P:Nat) (t:Int) (q:List Az):Prop where
 srt:VF q
 el:∀e∈q,Ge e.Vol∧0<e.Vol.Hi∧t≤e.At∧0≤e.To∧e.To<P
structure YJ (b:AJ) (h:BT):Prop where
 hour:0≤h.Hour∧h.Hour≤16777216
 vol:h.Vol.length=b.Places.length
 lks:h.Links.length=b.Links.length
 vols:∀v∈h.Vol,Ge v
 que:MB b.Places.length h.Hour h.Queue
 kn:∀(k:Nat) l x,b.Links[k]? =some l→h.Links[k]? =some x→Nu l x
def Yd (s:AD):Bool:=decide (s.Lo≤s.Hi)&&(decide (0≤s.Lo)&&decide (s.Hi≤1125899906842624))
theorem On {s:AD}:Yd s=true↔Ge s:=by
 unfold Yd Ge
 simp only[Bool.and_eq_true,decide_eq_true_eq]
 omega
theorem nb {α}(y z:Bool) (A B:Option α):Option.bind (cond (!y) (some true) (some (!z))) (λb=>cond b A B)=cond (y&&z) B A:=by cases y<;>cases z<;>rfl
theorem Tc (N:Nat) (l:AQ) (k:AT):∃v,Ez N l k=some v∧(v=true↔Nu l k):=by
 unfold Ez
 simp only[C9,MD,GX,Dk,GW,Option.bind_some,QA,Dp,Hc]
 have hop:∀n m:Int,(decide (k.Open.Lo=n)&&decide (k.Open.Hi=m))=true↔k.Open=⟨n,m⟩:=λn m=>by
  simp only[Bool.and_eq_true,decide_eq_true_eq]
  cases k.Open
  simp
 cases hB:(!decide (k.Pos.Lo≤k.Pos.Hi)|| !(decide (0≤k.Pos.Lo)&&decide (k.Pos.Hi≤l.Positions))|| !(decide (0≤k.Target)&&decide (k.Target≤l.Positions)))
 ·simp only[Bool.or_eq_false_iff,Bool.not_eq_false',Bool.and_eq_true,decide_eq_true_eq] at hB
  rw[cond_false]
  by_cases hk:l.Kind=5∨l.Kind=3
  ·rw[show (decide (l.Kind≠5)&&decide (l.Kind≠3))=false by rcases hk with h|h<;>simp [h],cond_false]
   refine⟨_,rfl,?_⟩
   rw[Bool.or_eq_true,Bool.or_eq_true,hop,hop,hop]
   refine⟨λh=>⟨by omega,by omega,?_⟩,λh=>?_⟩
   ·rcases h with (h|h)|h
    ·exact .inl h
    ·exact .inr ⟨hk,.inl h⟩
    ·exact .inr ⟨hk,.inr h⟩
   ·rcases h.opn with h|⟨_,h|h⟩
    ·exact .inl (.inl h)
    ·exact .inl (.inr h)
    ·exact .inr h
  ·rw[show (decide (l.Kind≠5)&&decide (l.Kind≠3))=true by simp;omega,cond_true]
   refine⟨_,rfl,?_⟩
   rw[hop]
   exact⟨λh=>⟨by omega,by omega,.inl h⟩,λh=>h.opn.resolve_right λh=>hk h.1⟩
 ·rw[cond_true]
  refine⟨false,rfl,(λh=>by cases h),λh=>?_⟩
  have h1:=h.pos
  have h2:=h.tgt
  rw[decide_eq_true (show k.Pos.Lo≤k.Pos.Hi by omega),decide_eq_true (show 0≤k.Pos.Lo by omega),decide_eq_true (show k.Pos.Hi≤l.Positions by omega),decide_eq_true h2.1,decide_eq_true h2.2] at hB
  cases hB
def Wc (P:Nat) (t:Int) (e:Az):Bool:=Yd e.Vol&&(decide (0<e.Vol.Hi)&&(decide (t≤e.At)&&(decide (0≤e.To)&&decide (e.To<(P:Int)))))
theorem Rx {P:Nat}{t:Int}{e:Az}:Wc P t e=true↔Ge e.Vol∧0<e.Vol.Hi∧t≤e.At∧0≤e.To∧e.To<P:=by
 unfold Wc
 simp only[Bool.and_eq_true,decide_eq_true_eq,On]
theorem SZ {N:Nat}(hN:2000000<N) (b:AJ) (hb:Fy b) (h:BT) (hq:h.Queue.length≤1800000):∃v,HH N b h=some v∧(v=true↔YJ b h):=by
 have hpl:=hb.pl
 have hli:=hb.li
 unfold HH
 cases hB:(((decide (h.Hour<0)||decide (16777216<h.Hour))||decide ((h.Vol.length:Int)≠(b.Places.length:Int)))||decide ((h.Links.length:Int)≠(b.Links.length:Int)))
 ·simp only[Bool.or_eq_false_iff,decide_eq_false_iff_not] at hB
  obtain⟨⟨⟨b1,b2⟩,b3⟩,b4⟩:=hB
  have b3:h.Vol.length=b.Places.length:=by omega
  have b4:h.Links.length=b.Links.length:=by omega
  rw[cond_false]
  rcases Ll h.Vol.length (λn i=>DL N h (DN N b h) n i) (DN N b h) (λi=>Yd (h.Vol.getD i default)) (λn k hk=>by
   simp only[DL];rw[EA hk];rfl) (λn k hk=>by
   simp only[DL]
   rw[D9 hk,cond_true,Al hk]
   simp only[Option.bind_some,C9,MD,Ae (show k<4611686018427387904 by omega),nb]
   rw[List.getD_eq_getElem?_getD,List.getElem?_eq_getElem hk]
   rfl) N 0 (by omega) (Nat.zero_le _) with ⟨h1,e1⟩|⟨⟨i,_,hi,h1⟩,e1⟩
  ·rw[show DL N h (DN N b h) N 0=DN N b h from e1]
   have hv:∀v∈h.Vol,Ge v:=λv hv=>by
    obtain⟨i,hi,rfl⟩:=List.mem_iff_getElem.1 hv
    have:=h1 i (Nat.zero_le _) hi
    rw[List.getD_eq_getElem?_getD,List.getElem?_eq_getElem hi] at this
    exact On.1 this
   unfold DN
   rcases Ll h.Queue.length (λn i=>DK N b h (DM N b h) n i) (DM N b h) (λi=>Wc b.Places.length h.Hour (h.Queue.getD i default)&&(decide (i=0)||decide (NQ (h.Queue.getD (i-1) default) (h.Queue.getD i default)<0))) (λn k hk=>by
    simp only[DK];rw[EA hk];rfl) (λn k hk=>by
    simp only[DK]
    rw[D9 hk,cond_true,Al hk]
    simp only[Option.bind_some,C9,MD,Ep,Ae (show k<4611686018427387904 by omega)]
    rw[List.getD_eq_getElem?_getD (i:=k),List.getElem?_eq_getElem hk,Option.getD_some]
    generalize hx:h.Queue[k]=x
    have e2:(Option.bind (cond (!decide (x.Vol.Lo≤x.Vol.Hi)) (some true) (some (!(decide (0≤x.Vol.Lo)&&decide (x.Vol.Hi≤1125899906842624))))) λb140=>Option.bind (cond ((b140||decide (x.Vol.Hi≤0))||decide (x.At<h.Hour)) (some true) (some (!(decide (0≤x.To)&&decide (x.To<(b.Places.length:Int)))))) λb151=>some b151)=some (!Wc b.Places.length h.Hour x):=by
     unfold Wc Yd
     rw[show decide (x.Vol.Hi≤0)= !decide (0<x.Vol.Hi) by rw[←decide_not];congr 1;exact propext ⟨λh=>by omega,λh=>by omega⟩,show decide (x.At<h.Hour)= !decide (h.Hour≤x.At) by rw[←decide_not];congr 1;exact propext ⟨λh=>by omega,λh=>by omega⟩]
     generalize decide (x.Vol.Lo≤x.Vol.Hi)=a1
     generalize (decide (0≤x.Vol.Lo)&&decide (x.Vol.Hi≤1125899906842624))=a2
     generalize decide (0<x.Vol.Hi)=a3
     generalize decide (h.Hour≤x.At)=a4
     generalize (decide (0≤x.To)&&decide (x.To<(b.Places.length:Int)))=a5
     cases a1<;>cases a2<;>cases a3<;>cases a4<;>cases a5<;>rfl
    have e3:∀{A:Bool→Option Bool},(Option.bind (cond (!decide (x.Vol.Lo≤x.Vol.Hi)) (some true) (some (!(decide (0≤x.Vol.Lo)&&decide (x.Vol.Hi≤1125899906842624))))) λb140=>Option.bind (cond ((b140||decide (x.Vol.Hi≤0))||decide (x.At<h.Hour)) (some true) (some (!(decide (0≤x.To)&&decide (x.To<(b.Places.length:Int)))))) A)=A (!Wc b.Places.length h.Hour x):=λ{A}=>by
     have:=congrArg (λz=>Option.bind z A) e2
     simp only[Option.bind_assoc,Option.bind_some] at this
     exact this
    rw[e3]
    cases Wc b.Places.length h.Hour x
    ·rfl
    ·rcases Nat.eq_zero_or_pos k with h0|h0
     ·subst h0
      rw[show decide ((0:Int)<((0:Nat):Int))=false by simp]
      rfl
     ·rw[show decide ((0:Int)<(k:Int))=true by simp;omega,show Aw ((k:Int)-1)=((k-1:Nat):Int) by rw[B1 (by omega) (by omega)];omega,Al (show k-1<h.Queue.length by omega)]
      simp only[cond_true,Option.bind_some]
      rw[NP (by omega),List.getD_eq_getElem?_getD,List.getElem?_eq_getElem (show k-1<h.Queue.length by omega),Option.getD_some]
      simp only[Option.bind_some]
      rw[show decide (0≤NQ h.Queue[k-1] x)= !decide (NQ h.Queue[k-1] x<0) by rw[←decide_not];congr 1;exact propext ⟨λh=>by omega,λh=>by omega⟩,show decide (k=0)=false by simp;omega]
      cases decide (NQ h.Queue[k-1] x<0)<;>rfl) N 0 (by omega) (Nat.zero_le _) with ⟨h2,e2⟩|⟨⟨i,_,hi,h2⟩,e2⟩
   ·rw[show DK N b h (DM N b h) N 0=DM N b h from e2]
    have hel:∀(i:Nat) (hi:i<h.Queue.length),Wc b.Places.length h.Hour h.Queue[i]=true∧(i=0∨NQ (h.Queue.getD (i-1) default) h.Queue[i]<0):=λi hi=>by
     have:=h2 i (Nat.zero_le _) hi
     rw[List.getD_eq_getElem?_getD (i:=i),List.getElem?_eq_getElem hi,Option.getD_some] at this
     simp only[Bool.and_eq_true,Bool.or_eq_true,decide_eq_true_eq] at this
     exact this
    have hsrt:VF h.Queue:=by
     unfold VF
     rw[List.pairwise_iff_getElem]
     have step:∀(i:Nat) (hi:i+1<h.Queue.length),OM (h.Queue[i]).At (h.Queue[i]).To (h.Queue[i+1]).At (h.Queue[i+1]).To:=λi hi=>by
      have:=(hel (i+1) hi).2.resolve_left (by omega)
      rw[List.getD_eq_getElem?_getD,Nat.add_sub_cancel,List.getElem?_eq_getElem (show i<h.Queue.length by omega),Option.getD_some] at this
      exact Li.1 this
     intro i j hi hj hij
     induction j with
     |zero=>omega
     |succ j ih=>
      by_cases e:i=j
      ·subst e;exact step i hj
      ·exact OL (ih (by omega) (by omega)) (step j hj)
    have hQ:MB b.Places.length h.Hour h.Queue:=⟨hsrt,λe he=>by
     obtain⟨i,hi,rfl⟩:=List.mem_iff_getElem.1 he
     exact Rx.1 (hel i hi).1⟩
    unfold DM
    rcases Ll h.Links.length (λn i=>DJ N b h (Dq N) n i) (Dq N) (λi=>(Ez N (b.Links.getD i default) (h.Links.getD i default)).getD false) (λn k hk=>by
     simp only[DJ];rw[EA hk];rfl) (λn k hk=>by
     have hk2:k<b.Links.length:=by omega
     simp only[DJ]
     rw[D9 hk,cond_true,Al hk,Al hk2]
     simp only[Option.bind_some,Ae (show k<4611686018427387904 by omega)]
     rw[List.getD_eq_getElem?_getD,List.getElem?_eq_getElem hk2,List.getD_eq_getElem?_getD,List.getElem?_eq_getElem hk,Option.getD_some,Option.getD_some]
     obtain⟨v,ev,_⟩:=Tc N b.Links[k] h.Links[k]
     rw[ev,Option.bind_some,Option.getD_some]
     cases v<;>rfl) N 0 (by omega) (Nat.zero_le _) with ⟨h3,e3⟩|⟨⟨i,_,hi,h3⟩,e3⟩
    ·rw[show DJ N b h (Dq N) N 0=Dq N from e3]
     refine⟨true,rfl,λ_=>⟨by omega,b3,b4,hv,hQ,λk l x hl hx=>?_⟩,λ_=>rfl⟩
     have hk:=(List.getElem?_eq_some_iff.1 hx).1
     have:=h3 k (Nat.zero_le _) hk
     rw[List.getD_eq_getElem?_getD,hl,List.getD_eq_getElem?_getD,hx,Option.getD_some,Option.getD_some] at this
     obtain⟨v,ev,hv⟩:=Tc N l x
     rw[ev] at this
     exact hv.1 this
    ·rw[show DJ N b h (Dq N) N 0=some false from e3]
     refine⟨false,rfl,(λh=>by cases h),λhok=>?_⟩
     have hi2:i<b.Links.length:=by omega
     rw[List.getD_eq_getElem?_getD,List.getElem?_eq_getElem hi2,List.getD_eq_getElem?_getD,List.getElem?_eq_getElem hi,Option.getD_some,Option.getD_some] at h3
     obtain⟨v,ev,hv⟩:=Tc N b.Links[i] h.Links[i]
     rw[ev,hv.2 (hok.kn i _ _ (List.getElem?_eq_getElem hi2) (List.getElem?_eq_getElem hi))] at h3
     cases h3
   ·rw[show DK N b h (DM N b h) N 0=some false from e2]
    refine⟨false,rfl,(λh=>by cases h),λhok=>?_⟩
    rw[List.getD_eq_getElem?_getD (i:=i),List.getElem?_eq_getElem hi,Option.getD_some,Rx.2 (hok.que.el _ (List.getElem_mem hi)),Bool.true_and] at h2
    simp only[Bool.or_eq_false_iff,decide_eq_false_iff_not] at h2
    have:=List.pairwise_iff_getElem.1 hok.que.srt (i-1) i (by omega) hi (by omega)
    refine absurd (Li.2 this) ?_
    have h2:=h2.2
    rw[List.getD_eq_getElem?_getD,List.getElem?_eq_getElem (show i-1<h.Queue.length by omega),Option.getD_some] at h2
    exact h2
  ·rw[show DL N h (DN N b h) N 0=some false from e1]
   refine⟨false,rfl,(λh=>by cases h),λhok=>?_⟩
   rw[List.getD_eq_getElem?_getD,List.getElem?_eq_getElem hi,Option.getD_some,On.2 (hok.vols _ (List.getElem_mem hi))] at h1
   cases h1
 ·rw[cond_true]
  refine⟨false,rfl,(λh=>by cases h),λhok=>?_⟩
  have h1:=hok.hour
  have h2:=hok.vol
  have h3:=hok.lks
  simp only[Bool.or_eq_true,decide_eq_true_eq] at hB
  omega
end Go.Proofs.YtibidnaedddfdaaGreat
