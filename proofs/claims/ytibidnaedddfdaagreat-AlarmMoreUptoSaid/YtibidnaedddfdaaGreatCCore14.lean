import Derived.Test.YtibidnaedddfdaaGreatCCore13
namespace Go.Proofs.YtibidnaedddfdaaGreat
open Go.RowKit
set_option linter.unusedVariables false
set_option linter.unusedSimpArgs false
def TV (ops:Array Oper) (n:Nat) (F:List Nat):Bool:=
 (List.range n).all λi=>F.contains i||(List.range (n+1)).any λj=>decide (i<j)&& !F.contains j&&Region.waitsFor .any ops j i
def Je (ops:Array Oper) (f:Nat):Bool:=(List.range ops.size).all λj=>j==f||(Region.waitsFor .any ops j f||(Region.waitsFor .any ops f j||match ops[f]?,ops[j]? with
 |some oi,some oj=>oi.apart ops oj
 |_,_=>false))
def Jh (P:Program) (ops:Array Oper) (n:FN) (m:SM) (h0:AX) (R:AR) (i:Nat) (o:Oper) (ps:List (Nat×Nat)):Prop:=
 ∀mt h,BX h0 h→PA R h (λfr=>∀a,Fr n a (fr++(m++mt))→∃v,Yields P ops o v a∧R i v h) ps []
section
variable {P:Program}{ops:Array Oper}{Q:Exit→Act→World→Prop}{a:Act}{w:World}
theorem PX {n:Nat}{F:List Nat}{listed:Array Bool}(hs:TV ops n F=true) (hc:Region.chainB .any ops n=true) (hn:n<ops.size) (inv:HeadInv .any ops n listed):
  ∀(d i:Nat),n-i=d→i<n→i∉F→listed.getD i true=false→∀t,n≤t→t∉Region.ready .any ops listed:=by
 intro d
 induction d using Nat.strongRecOn with
 |_ d ih=>
  intro i hd hi hiF hun t ht hr
  obtain⟨_,ot,hot,hall⟩:=mem_ready.1 hr
  have htlt:t<ops.size:=(Array.getElem?_eq_some_iff.1 hot).1
  by_cases htn:t=n
  ·subst htn
   have h1:=List.all_eq_true.1 hs i (List.mem_range.2 hi)
   simp only[Bool.or_eq_true,List.contains_iff_mem,hiF,false_or] at h1
   obtain⟨j,hj,hj2⟩:=List.any_eq_true.1 h1
   simp only[Bool.and_eq_true,decide_eq_true_eq,Bool.not_eq_true'] at hj2
   have hjF:j∉F:=λh=>by
    have:=hj2.1.2
    rw[List.contains_iff_mem.2 h] at this
    cases this
   obtain⟨oj,hoj,e,he,hb,hon⟩:=Region.waitsFor_spec hj2.2
   have hjle:j≤t:=by have:=List.mem_range.1 hj;omega
   by_cases hjt:j=t
   ·subst hjt
    have:oj=ot:=Option.some.inj (hoj.symm.trans hot)
    subst this
    have h2:=hall e he hb
    rw[hon,getD_both hun] at h2
    cases h2
   ·cases hl:listed.getD j false with
    |true=>
     have h2:=inv.closed j oj hoj hl e he hb
     rw[hon,getD_both hun] at h2
     cases h2
    |false=>
     have hjs:j<listed.size:=by rw[inv.size];omega
     exact ih (t-j) (by have:=hj2.1.1;omega) j rfl (by omega) hjF (getD_in hjs hl) t (Nat.le_refl _) hr
  ·have h1:=List.all_eq_true.1 hc t (List.mem_range.2 htlt)
   simp only[Bool.or_eq_true,decide_eq_true_eq] at h1
   rcases h1 with h1|h1
   ·omega
   ·obtain⟨o',ho',e,he,hb,hon⟩:=Region.waitsFor_spec h1
    have:o'=ot:=Option.some.inj (ho'.symm.trans hot)
    subst this
    have h2:=hall e he hb
    rw[hon,getD_both (inv.tail (t-1) (by omega) (by omega))] at h2
    cases h2
theorem Uy {B:World}{h0:AX}{kk:Nat}{n:FN}{m:SM}{R:AR}(hkk:kk≤ops.size) (hb:JD ops=true)
  (F:List Nat) (hcut:kk=ops.size∨(TV ops kk F=true∧Region.chainB .any ops kk=true)) (hsel:Region.noSelect ops=true) (hQ:∀c a w,¬Q (.panic c) a w)
  (hF:∀f,f∈F→f<kk∧Je ops f=true∧∃o d ps,ops[f]? =some o∧o.dst=some d∧Nz ops o ps=true∧Jh P ops n m h0 R f o ps)
  (hown:VX ops kk n (m.map (·.1))=true)
  (hmono:∀i v h h',BX h0 h→BX h h'→R i v h→R i v h')
  (step:∀i o d,i<kk→ops[i]? =some o→o.dst=some d→∃ps,Nz ops o ps=true∧Oe P ops Q B n m h0 R i o d ps)
  (fin:∀a w h,Wd B h w→BX h0 h→Fr n a m→(∀i,i<kk→∃d v,C0 ops i=some d∧a.tmps[d]? =some v∧R i v h)→wpList P ops Q (ops.toList.drop kk) a w):
  ∀(fuel:Nat) (listed:Array Bool) (a:Act) (w:World),Mx listed=fuel→HeadInv .any ops kk listed→Zt B h0 n m ops kk R listed a w→wpAny P .any ops Q fuel listed a w:=by
 intro fuel
 induction fuel with
 |zero=>
  intro listed a w hu inv ai
  have hall:∀i,listed.getD i true=true:=λi=>LS hu
  obtain⟨h,g1,g2,g3,g4⟩:=ai.ex
  have hk:kk=ops.size:=by
   rcases Nat.lt_or_eq_of_le hkk with h|h
   ·have h1:=inv.tail kk (Nat.le_refl _) h
    have h2:=hall kk
    rw[h1] at h2
    cases h2
   ·exact h
  have hf:=fin a w h g1 g2 g3 λi hi=>g4 i hi (by
   have h2:=hall i
   have:i<listed.size:=by rw[inv.size];omega
   simpa [this] using h2)
  rw[List.drop_eq_nil_of_le (by simp;omega)] at hf
  exact⟨KW λi _=>hall i,hf⟩
 |succ fuel ih=>
  intro listed a w hu inv ai
  obtain⟨h,g1,g2,g3,g4⟩:=ai.ex
  by_cases hall:∀i,i<kk→listed.getD i true=true
  ·
   have hf:=fin a w h g1 g2 g3 λi hi=>g4 i hi (by
    have h2:=hall i hi
    have:i<listed.size:=by rw[inv.size];omega
    simpa [this] using h2)
   have hlt:kk<ops.size:=by
    rcases Nat.lt_or_eq_of_le hkk with h|h
    ·exact h
    ·exfalso
     have hnone:∀b∈listed.toList,b=true:=by
      intro b hb'
      obtain⟨i,hi,rfl⟩:=List.mem_iff_getElem.1 hb'
      have hi':i<listed.size:=by simpa using hi
      have:=hall i (by have:=inv.size;omega)
      simpa [hi'] using this
     have:Mx listed=0:=by
      unfold Mx
      rw[List.count_eq_zero]
      intro hm
      have:=hnone _ hm
      cases this
     omega
   rcases hcut with hc|⟨_,hc⟩
   ·omega
   ·refine LB hc hb (fuel+1) kk listed a w (Nat.le_refl _) ?_ inv.size hall (λj hj hj'=>inv.tail j hj hj') hf
    have:=OD (by rw[inv.size];exact hkk) hall (λj hj hj'=>inv.tail j hj (by rw[←inv.size];exact hj'))
    rw[inv.size] at this
    omega
  ·have hpredsG:∀i o,i<kk→i∈Region.ready .any ops listed→ops[i]? =some o→∀ps,Nz ops o ps=true→∀p∈ps,∃v,a.tmps[p.2]? =some v∧R p.1 v h:=by
    intro i o hik hi ho ps hps
    obtain⟨hun,o',ho',hpre⟩:=mem_ready.1 hi
    have:o'=o:=Option.some.inj (ho'.symm.trans ho)
    subst this
    have hilt:i<ops.size:=(Array.getElem?_eq_some_iff.1 ho).1
    have hpreds:∀j∈LH o',∃d v,C0 ops j=some d∧a.tmps[d]? =some v∧R j v h:=by
     intro j hj
     obtain⟨e,he,rfl⟩:=List.mem_map.1 hj
     obtain⟨he1,he2⟩:=List.mem_filter.1 he
     have he3:e∈o'.after:=by simpa using he1
     have h1:=hpre e he3 he2
     have h4:=List.all_eq_true.1 hb i (List.mem_range.2 hilt)
     rw[ho] at h4
     simp only[Option.map_some,Option.getD_some,Array.all_eq_true_iff_forall_mem] at h4
     have h6:=h4 e he3
     simp only[he2,Bool.not_true,Bool.false_or,decide_eq_true_eq] at h6
     exact g4 e.on (by omega) h1
    intro p hp
    have h1:=List.all_eq_true.1 hps p hp
    simp only[Bool.and_eq_true] at h1
    obtain⟨d',v,q1,q2,q3⟩:=hpreds p.1 (by simpa using h1.1)
    have h2:=h1.2
    rw[q1] at h2
    have:p.2=d':=Nat.eq_of_beq_eq_true (by simpa using h2)
    exact⟨v,by rw[this];exact q2,q3⟩
   have nextG:∀i o d,i<kk→i∈Region.ready .any ops listed→ops[i]? =some o→o.dst=some d→∀v w' h',Wd B h' w'→BX h h'→R i v h'→wpAny P .any ops Q fuel (listed.setIfInBounds i true) (a.put (some d) v) w':=by
    intro i o d hik hi ho hod v w' h' hw' ho' hr
    obtain⟨hun,_,_,_⟩:=mem_ready.1 hi
    have hd:C0 ops i=some d:=by unfold C0;rw[ho];exact hod
    have hown':=List.all_eq_true.1 hown i (List.mem_range.2 hik)
    rw[hd] at hown'
    simp only[Bool.and_eq_true,Bool.not_eq_true',List.all_eq_true,List.mem_range,Bool.or_eq_true] at hown'
    obtain⟨⟨hdn,hdm⟩,hdj⟩:=hown'
    have hdn1:d+1≤n.1:=by simpa [Nat.blt] using hdn
    have hdn':d<n.1:=hdn1
    refine ih _ _ _ (by have:=Il hun;omega) (inv.set hi hik) ⟨h',hw',g2.trans ho',?_,λj hj hl=>?_⟩
    ·have hp:=g3.put hdn v
     refine⟨hp.dfr,hp.siz,λi' u hi'=>hp.at_ i' u ?_⟩
     have hne:Nat.beq d i'=false:=by
      cases hb':Nat.beq d i' with
      |false=>rfl
      |true=>
       have:=Nat.eq_of_beq_eq_true hb'
       subst this
       have h1:=Ox hi'
       rw[←List.contains_iff_mem] at h1
       rw[h1] at hdm
       cases hdm
     simp only[lk,hne,cond_false]
     exact hi'
    ·by_cases e:i=j
     ·subst e
      refine⟨d,v,hd,?_,hr⟩
      simp only[Act.put,Array.getElem?_setIfInBounds]
      have:=g3.siz
      simp [this,hdn']
     ·rw[getD_set_ne false e] at hl
      obtain⟨dj,vj,q1,q2,q3⟩:=g4 j hj hl
      refine⟨dj,vj,q1,?_,hmono _ _ _ _ g2 ho' q3⟩
      have h1:=hdj j hj
      rw[q1] at h1
      have hne:d≠dj:=by
       rcases h1 with h1|h1
       ·exact absurd (Nat.eq_of_beq_eq_true h1) e
       ·intro e'
        subst e'
        simp at h1
      simp only[Act.put,Array.getElem?_setIfInBounds]
      rw[if_neg hne]
      exact q2
   by_cases hfl:∃f,f∈F∧f∈Region.ready .any ops listed
   ·obtain⟨f,hf1,hf2⟩:=hfl
    obtain⟨hfk,hfree,o,d,ps,ho,hod,hps,hst⟩:=hF f hf1
    obtain⟨fr,hK,hfr⟩:=G5 (a:=a) (n:=n) _ _ (hst (EQ a) h g2) (hpredsG f o hfk hf2 ho ps hps) ⟨g3.dfr,g3.siz,λi v hi=>by simp [lk] at hi⟩
    obtain⟨v,hy,hr⟩:=hK a (hfr.append (g3.append g3.full))
    refine wpAny_first ho (Region.noSelect_spec hsel) (λc a w hq=>absurd hq (hQ c _ w)) fuel listed a w (λj oj hj hne hunj hno=>?_) hf2 hy ?_
    ·have h1:=List.all_eq_true.1 hfree j (List.mem_range.2 (Array.getElem?_eq_some_iff.1 hj).1)
     simp only[ho,hj,Bool.or_eq_true,beq_iff_eq,hne,false_or] at h1
     rcases h1 with h1|h1
     ·obtain⟨oj',hoj',e,he,hb',hon⟩:=Region.waitsFor_spec h1
      have:oj'=oj:=Option.some.inj (hoj'.symm.trans hj)
      subst this
      exact absurd hon (hno e he hb')
     ·rcases h1 with h1|h1
      ·obtain⟨of',hof',e,he,hb',hon⟩:=Region.waitsFor_spec h1
       obtain⟨_,of2,hof2,hall2⟩:=mem_ready.1 hf2
       have:of'=of2:=Option.some.inj (hof'.symm.trans hof2)
       subst this
       have h5:=hall2 e he hb'
       rw[hon,getD_both hunj] at h5
       cases h5
      ·exact h1
    ·rw[hod]
     exact nextG f o d hfk hf2 ho hod v w h g1 (BX.refl h) hr
   obtain⟨k0,hk0,hu0,hk0F⟩:∃k0,k0<kk∧listed.getD k0 true=false∧k0∉F:=by
    obtain⟨k1,hk1,hu1⟩:∃k0,k0<kk∧listed.getD k0 true=false:=by
     apply Classical.byContradiction
     intro hno
     refine hall λi hi=>?_
     cases hl:listed.getD i true with
     |true=>rfl
     |false=>exact absurd ⟨i,hi,hl⟩ hno
    obtain⟨i0,q1,hi0,_⟩:=GT hb inv.size (show k1<ops.size by omega) hu1
    exact⟨i0,by omega,(mem_ready.1 hi0).1,λhf=>hfl ⟨i0,hf,hi0⟩⟩
   obtain⟨i0,_,hi0,_⟩:=GT hb inv.size (show k0<ops.size by omega) hu0
   refine⟨λh0=>absurd (h0▸hi0) (by simp),λi hi=>?_⟩
   obtain⟨hun,o,ho,hpre⟩:=mem_ready.1 hi
   have hilt:i<ops.size:=(Array.getElem?_eq_some_iff.1 ho).1
   have hik:i<kk:=by
    rcases Nat.lt_or_ge i kk with h|h
    ·exact h
    ·rcases hcut with hc|⟨hs,hc⟩
     ·omega
     ·exact absurd hi (PX hs hc (by omega) inv _ k0 rfl hk0 hk0F hu0 i h)
   have hown':=List.all_eq_true.1 hown i (List.mem_range.2 hik)
   cases hd:C0 ops i with
   |none=>rw[hd] at hown';cases hown'
   |some d=>
   rw[hd] at hown'
   simp only[Bool.and_eq_true,Bool.not_eq_true',List.all_eq_true,List.mem_range,Bool.or_eq_true] at hown'
   obtain⟨⟨hdn,hdm⟩,hdj⟩:=hown'
   have hdn1:d+1≤n.1:=by simpa [Nat.blt] using hdn
   have hdn':d<n.1:=hdn1
   have hod:o.dst=some d:=by unfold C0 at hd;rw[ho] at hd;exact hd
   obtain⟨ps,hps,hstep⟩:=step i o d hik ho hod
   have hpreds2:=hpredsG i o hik hi ho ps hps
   obtain⟨fr,hK,hfr⟩:=G5 (a:=a) (n:=n) _ _ (hstep (EQ a) h g2) hpreds2 ⟨g3.dfr,g3.siz,λi v hi=>by simp [lk] at hi⟩
   have hfull:Fr n a (fr++(m++EQ a)):=hfr.append (g3.append g3.full)
   have hlk:∀i u,a.tmps[i]? =some u→lk (fr++(m++EQ a)) i=some u:=by
    intro i u hu
    have hl:lk (EQ a) i=some u:=by
     have:i<a.tmps.size:=(Array.getElem?_eq_some_iff.1 hu).1
     rw[KX this]
     simp [Array.getD_eq_getD_getElem?,hu]
    have hex:∃u',lk (fr++(m++EQ a)) i=some u':=by
     rw[Fh,Fh,hl]
     cases lk fr i with
     |some x=>exact⟨x,by simp⟩
     |none=>cases lk m i with
      |some x=>exact⟨x,by simp⟩
      |none=>exact⟨u,by simp⟩
    obtain⟨u',hu'⟩:=hex
    have:=hfull.at_ i u' hu'
    rw[hu] at this
    rw[hu',←Option.some.inj this]
   have next:=nextG i o d hik hi ho hod
   have conv:∀a' w',KS B n d (R i) h (fr++(m++EQ a)) a' w'→wpAny P .any ops Q fuel (listed.setIfInBounds i true) a' w':=by
    rintro a' w' ⟨v,h',f1,f2,f3,f4⟩
    have:=Fr.same hdn' hfull f1 λi u hi hu=>by
     have hne:Nat.beq d i=false:=by
      cases hb':Nat.beq d i with
      |false=>rfl
      |true=>exact absurd (Nat.eq_of_beq_eq_true hb').symm hi
     simp only[lk,hne,cond_false]
     exact hlk i u hu
    subst this
    exact next v w' h' f2 f3 f4
   unfold wpOp
   simp only[ho]
   cases hg:o.guard with
   |none=>
    rw[hg] at hK
    rw[if_pos (by simp [Region.wanted,hg])]
    exact(F3 hg (hK a w hfull g1)).imp (Oper.wp_mono conv) id
   |some gb=>
    obtain⟨g,b⟩:=gb
    rw[hg] at hK
    obtain⟨dg,q1,hK⟩:=hK
    rcases hK with ⟨k1,k2⟩|⟨v,k1,k2,k3⟩
    ·have hy:yielded ops a.tmps g=some b:=Hn hfr q1 k1
     rw[if_pos (by simp [Region.wanted,hg,hy])]
     exact(JI (F3 rfl (k2 a w hfull g1))).imp (Oper.wp_mono conv) id
    ·have hy:yielded ops a.tmps g≠some b:=by rw[Hn hfr q1 k1];exact k2
     rw[if_neg (by simp [Region.wanted,hg,hy]),hod]
     exact next undef w h g1 (BX.refl h) k3
end
def ZF (ops:Array Oper) (kk:Nat) (F:List Nat):Bool:=Nat.ble kk ops.size&&(Nat.beq kk ops.size||(TV ops kk F&&Region.chainB .any ops kk))&&JD ops&&Region.noSelect ops
def PO (P:Program) (ops:Array Oper) (kk:Nat) (n:FN) (m:SM) (h0:AX) (R:AR):List Nat→Prop
 |[]=>True
 |f::F=>(f<kk∧Je ops f=true∧∃o d ps,ops[f]? =some o∧o.dst=some d∧Nz ops o ps=true∧Jh P ops n m h0 R f o ps)∧PO P ops kk n m h0 R F
theorem PO.at_ {P:Program}{ops:Array Oper}{kk:Nat}{n:FN}{m:SM}{h0:AX}{R:AR}:∀{F:List Nat},PO P ops kk n m h0 R F→∀f,f∈F→f<kk∧Je ops f=true∧∃o d ps,ops[f]? =some o∧o.dst=some d∧Nz ops o ps=true∧Jh P ops n m h0 R f o ps
 |[],_,f,hf=>by cases hf
 |g::F,⟨h1,h2⟩,f,hf=>by
  rcases List.mem_cons.1 hf with rfl|hf
  ·exact h1
  ·exact PO.at_ h2 f hf
theorem PO.cons {P:Program}{ops:Array Oper}{kk:Nat}{n:FN}{m:SM}{h0:AX}{R:AR}{f d:Nat}{o:Oper}{F:List Nat}(ps:List (Nat×Nat)) (h1:(Nat.blt f kk&&Je ops f)=true) (ho:ops[f]? =some o) (hd:o.dst=some d) (hps:Nz ops o ps=true) (hs:Jh P ops n m h0 R f o ps) (t:PO P ops kk n m h0 R F):PO P ops kk n m h0 R (f::F):=by
 simp only[Bool.and_eq_true] at h1
 exact⟨⟨(by simpa [Nat.blt] using h1.1:f+1≤kk),h1.2,o,d,ps,ho,hd,hps,hs⟩,t⟩
theorem NA {P:Program}{ops:Array Oper}{n:FN}{m:SM}{d i:Nat}{ty:TypeId}{pos:String}{af:Array Edge}{X:Operand}{xs:Array Value}{u:Value}{a:Act}(hf:Fr n a m) (hx:BP m X=some (.tuple xs)) (hi:xs[i]? =some u):Yields P ops ⟨some d,.extract X i,ty,pos,af,none⟩ u a:=
 .inl ⟨by simp [Region.wanted],λw=>by simp [execOp,hf.eval hx,Instr.extract,hi]⟩
theorem KU {P:Program}{ops:Array Oper}{n:FN}{m:SM}{d:Nat}{ty:TypeId}{pos:String}{af:Array Edge}{X:Operand}{u:Value}{a:Act}(hf:Fr n a m) (hx:BP m X=some u):Yields P ops ⟨some d,.move X,ty,pos,af,none⟩ u a:=
 .inl ⟨by simp [Region.wanted],λw=>by simp [execOp,hf.eval hx]⟩
section
variable {P:Program}{ex:List (Nat×AP)}{RR N:AP}{cs:List Code}{B:World}{h:AX}{n:FN}{m m0:SM}{S:Nat→Prop}{L:List HP}
theorem X6 {l:List Oper}{id:Nat}(kk:Nat) (F:List Nat) (R:AR) (pss:List (List (Nat×Nat))) (fs:List (Nat×Nat)) (hm:P.follows .mixedOrders=true) (hc:ZF l.toArray kk F=true) (ms:List Nat) (hms:m.map (·.1)=ms) (hown:VX l.toArray kk n ms=true)
  (hps:Qn l.toArray (l.take kk) pss=true) (hfs:(fs.all λp=>Nat.blt p.1 kk&&(C0 l.toArray p.1).any (Nat.beq p.2 ·))=true) (hsub:PJ m0 m)
  (hmono:∀i v h1 h2,BX h h1→BX h1 h2→R i v h1→R i v h2)
  (hF:PO P l.toArray kk n m h R F)
  (step:CG P l.toArray (Qx ex RR (W P ex RR cs N)) B n m h R 0 (l.take kk) pss)
  (fin:∀h',BX h h'→PA R h' (λfr=>LF P l.toArray (Qx ex RR (W P ex RR cs N)) (l.drop kk) B h' n (fr++m)) fs []):WF P ex RR (.region id l.toArray true::cs) N B h n m0:=by
 intro a w hf hw
 subst hms
 simp only[ZF,Bool.and_eq_true,Bool.or_eq_true] at hc
 obtain⟨⟨⟨h1,h2⟩,h3⟩,h4⟩:=hc
 have hkk:kk≤l.toArray.size:=Nat.le_of_ble_eq_true h1
 refine λrd hrd=>LG hrd Iz hm (Uy (kk:=kk) (R:=R) (B:=B) (h0:=h) (n:=n) (m:=m) hkk h3 F (h2.imp (λe=>Nat.eq_of_beq_eq_true e) λx=>x) h4 (λc a w hq=>hq) (λf hf=>hF.at_ f hf) hown hmono (λi o d hi ho hd=>?_) (λa w h' g1 g2 g3 g4=>?_) _ _ _ _ ?_ ⟨by simp,λj oj _ hl=>(by rw[getD_replicate_false] at hl;cases hl),λt _ ht=>getD_in (by simpa using ht) (getD_replicate_false _ _)⟩ ⟨h,hw.drew,BX.refl h,hf.sub hsub,λi _ hl=>(by rw[getD_replicate_false] at hl;cases hl)⟩)
 ·have ho':(l.take kk)[i]? =some o:=by rw[List.getElem?_take_of_lt hi];simpa using ho
  have:=CG.at_ step hps ho' hd
  rw[Nat.zero_add] at this
  exact this
 ·obtain⟨fr,k1,k2⟩:=G5 (a:=a) (n:=n) _ _ (fin h' g2) (λp hp=>by
   have e:=List.all_eq_true.1 hfs p hp
   simp only[Bool.and_eq_true] at e
   have e1:p.1<kk:=(by simpa [Nat.blt] using e.1:p.1+1≤kk)
   obtain⟨d,v,q1,q2,q3⟩:=g4 p.1 e1
   have e2:=e.2
   rw[q1] at e2
   have:p.2=d:=Nat.eq_of_beq_eq_true (by simpa using e2)
   exact⟨v,by rw[this];exact q2,q3⟩) ⟨g3.dfr,g3.siz,λi v hi=>by simp [lk] at hi⟩
  exact k1 a w (k2.append g3) g1
 ·unfold Mx
  rw[Array.toList_replicate]
  simp
end
end Go.Proofs.YtibidnaedddfdaaGreat
