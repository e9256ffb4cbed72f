import Derived.Test.YtibidnaedddfdaaGreatBPureHStep
import Derived.Test.YtibidnaedddfdaaGreatBInsert
namespace Go.Proofs.YtibidnaedddfdaaGreat
open Go.RowKit
set_option linter.unusedVariables false
set_option linter.unusedSimpArgs false
theorem Sl.rdx {α}{S:Nat→Prop}{h:Ac}{r:AW α}{v:Value}{l:List α}(k:Sl S h r v l) {x:α}(hx:x∈l):∃cs,r.rd S h cs x:=by
 obtain⟨i,hi⟩:=List.mem_iff_getElem?.1 hx
 obtain⟨_,_,_,cs,_,h2⟩:=k.at_ hi
 exact⟨cs,h2⟩
theorem TI {S:Nat→Prop}{h:Ac}{v:Value}{l:List AF}(k:Sl S h AH v l):∀s∈l,AB s.Lo∧AB s.Hi:=λs hs=>by
 obtain⟨cs,_,h2⟩:=k.rdx hs
 exact h2
theorem TD {S:Nat→Prop}{h:Ac}{v:Value}{x:C7}(k:Rd S h E0 v x):∀t∈x.Takes,AB t.Litres:=λt ht=>by
 obtain⟨_,_,_,v3,_,_,_,_,_,k3,_⟩:=E0.ex k
 obtain⟨cs,_,h2⟩:=k3.rdx ht
 exact h2.2.2.1
theorem VU {N:Nat}(hN:1000<N) {b:AK}(hpl:b.Places.length≤64) {t:Int}{r:Al×List AF×List AF}(h:WJ b t r) (kj:Option Bool):BX N b r kj N 0=kj:=
 Oh b.Places.length (λn i=>BX N b r kj n i) kj (λn i hi=>by
  simp only[BX];rw[EK hi];rfl) (λn i hi=>by
  have hp:i<r.2.1.length:=by rw[h.pk.1];exact hi
  have hs:i<r.2.2.length:=by rw[h.sp.1];exact hi
  have hv:i<r.1.Vol.length:=by rw[h.vol];exact hi
  obtain⟨a1,a2,a3⟩:=h.pk.2 _ (List.getElem_mem hp)
  obtain⟨b1,b2,b3⟩:=h.sp.2 _ (List.getElem_mem hs)
  obtain⟨_,c1,c2⟩:=h.vols i _ (List.getElem?_eq_getElem hv)
  have c1:=c1 _ (List.getElem?_eq_getElem hi)
  have c2:=c2 _ (List.getElem?_eq_getElem hp)
  simp only[BX]
  rw[EJ hi,cond_true,Aw hp,Aw hs,Aw hv,Aw hi,Au (by omega)]
  simp only[Option.bind_some,Cp,Kg]
  rw[decide_eq_true a2,decide_eq_true a1,decide_eq_true a3,decide_eq_true b2,decide_eq_true b1,decide_eq_true b3,decide_eq_false (show ¬(b.Places[i]).Cap<(r.1.Vol[i]).Hi by omega),decide_eq_false (show ¬(r.2.1[i]).Hi<(r.1.Vol[i]).Hi by omega)]
  rfl) N 0 (by omega) (Nat.zero_le _)
theorem Oi {N:Nat}(hN:18446744073709551616<N) (hsm:Ed N=some true) (b:AK) (h:Al) (in_:C7) (sure:List Bool) (rain:List AF) (ht:∀t∈in_.Takes,AB t.Litres) (hr:∀s∈rain,AB s.Lo∧AB s.Hi):Dv N b h in_ sure rain=some true:=by
 unfold Dv
 rw[hsm,Option.bind_some]
 unfold GL
 cases hB:(((decide (6<(b.Places.length:Int))||decide (6<(b.Links.length:Int)))||decide (4<(b.Owners.length:Int)))||decide (16<(h.Queue.length:Int))) with
 |true=>rfl
 |false=>
  simp only[Bool.or_eq_false_iff,decide_eq_false_iff_not] at hB
  rw[cond_false,Option.bind_some]
  cases hC:(((!((((decide ((in_.Rain.length:Int)≤8)&&decide ((in_.Faults.length:Int)≤8))&&decide ((in_.Cmds.length:Int)≤8))&&decide ((in_.Takes.length:Int)≤8))&&decide ((in_.Swaps.length:Int)≤8)))||decide (10<(sure.length:Int)))||decide (10<(rain.length:Int))) with
  |true=>rfl
  |false=>
   simp only[Bool.or_eq_false_iff,decide_eq_false_iff_not,Bool.not_eq_false',Bool.and_eq_true,decide_eq_true_eq] at hC
   rw[cond_false]
   obtain⟨v,ev,kv⟩:=Pf hN b
   rw[ev,Option.bind_some,Option.bind_some]
   cases v with
   |false=>rfl
   |true=>
    obtain⟨hb,_⟩:=XU hN ev
    obtain⟨v,e2,k2⟩:=OB (N:=N) (by omega) b hb.head h (by omega)
    simp only[Bool.not_true,cond_false]
    rw[e2,Option.bind_some,Option.bind_some]
    cases v with
    |false=>rfl
    |true=>
     have hh:=k2.1 rfl
     have hho:=hh.hour
     simp only[Bool.not_true,Bool.false_or]
     by_cases hmx:16777216≤h.Hour
     ·rw[decide_eq_true hmx];rfl
     ·rw[decide_eq_false hmx,cond_false]
      obtain⟨r,er,hS,hlen⟩:=VA hN hb hh.vol hh.vols hh.hour hh.que ⟨hh.lks,hh.kn⟩ (in_:=in_) (by omega) (by omega) (by omega) ht (sure:=sure) hr (by omega)
      have hpl:=hb.head.pl
      have hmul:b.Places.length*(in_.Takes.length+101)≤64*191:=Nat.mul_le_mul (by omega) (by omega)
      obtain⟨v,e3,k3⟩:=OB (N:=N) (by omega) b hb.head r.1 (by omega)
      have hv:v=true:=k3.2 ⟨by rw[hS.hour];omega,hS.vol,hS.lks.1,λv hv=>by
       obtain⟨i,hi⟩:=List.mem_iff_getElem?.1 hv
       exact(hS.vols i v hi).1,by rw[hS.hour];exact hS.que,hS.lks.2⟩
      subst hv
      rw[er,Option.bind_some,e3,Option.bind_some,B9 (by omega) (by omega),hS.hour,hS.pk.1,hS.sp.1]
      simp only[Bool.not_true,ne_eq,not_true_eq_false,decide_false,Bool.or_self,cond_false]
      rw[VU (by omega) (by omega) hS]
      rfl
theorem VD:Ed BN=some true:=by decide +kernel
theorem Oj (b:AK) (h:Al) (in_:C7) (sure:List Bool) (rain:List AF) (ht:∀t∈in_.Takes,AB t.Litres) (hr:∀s∈rain,AB s.Lo∧AB s.Hi):Dv BN b h in_ sure rain=some true:=Oi (by unfold BN;omega) VD b h in_ sure rain ht hr
end Go.Proofs.YtibidnaedddfdaaGreat
