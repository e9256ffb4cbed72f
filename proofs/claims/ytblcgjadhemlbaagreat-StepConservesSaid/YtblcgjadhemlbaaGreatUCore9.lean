import Derived.Test.YtblcgjadhemlbaaGreatUPureC4
import Derived.Test.YtblcgjadhemlbaaGreatUPureEx
import Derived.Test.YtblcgjadhemlbaaGreatUCore8
import Derived.ProofKit
import Derived.OpenShut
import Derived.JoinedCond
import Derived.Deep.Slices
namespace Go.Proofs.YtblcgjadhemlbaaGreat
open Go.RowKit
set_option linter.unusedVariables false
set_option linter.unusedSimpArgs false
structure AfX (b:AW) (s:Ak) (r:Ak×List Ae×List Int) (o3:List (List Int)) (l:List Ae):Prop where
 own:HM b.Places.length b.Owners.length r.1.Own
 que:QX b.Places.length b.Owners.length r.1.Queue
 tot:Dy r.1.Own+Ex r.1.Queue+HY (l.filter VL)=Dy o3+Ex (JY s.Hour s.Queue)
 ol:r.1.Out.length=b.Owners.length
 o0:∀x∈r.1.Out,0≤x
 os:r.1.Out.sum=s.Out.sum+HY (l.filter VL)
 oc:∀o,o<b.Owners.length→r.1.Out.getD o 0=s.Out.getD o 0+NK o (l.filter VL)
 col:∀o,o<b.Owners.length→MQ o r.1.Own+LA o r.1.Queue+NK o (l.filter VL)=MQ o o3+LA o (JY s.Hour s.Queue)
 ql:r.1.Queue.length≤s.Queue.length+100000
 l0:0≤HY (l.filter VL)
theorem Yi {N:Nat}(hN:18446744073709551616<N) {b:AW}(hb:G1 b) {s:Ak}(hs:kE b s) {ts:List Fj}{o1:List (List Int)}{r:Ak×List Ae×List Int}{ns:List Int}{o3:List (List Int)}{l:List Ae}(h:Qw N b s ts o1 r ns o3 l):AfX b s r o3 l:=by
 have hW:=hb.own
 have hpx:∀m∈l,PX b.Owners.length m.Part:=λm hm=>by obtain⟨p,_,hp⟩:=h.lv.mv m hm;exact hp.px
 have hrest:QX b.Places.length b.Owners.length (JY s.Hour s.Queue):=λl hl=>hs.x.que l (List.mem_filter.1 hl).1
 have hsent:QX b.Places.length b.Owners.length (l.filterMap (Kc b s.Hour)):=λx hx=>by
  obtain⟨m,hm,e⟩:=List.mem_filterMap.1 hx
  obtain⟨p,_,hp⟩:=h.lv.mv m hm
  unfold Kc at e
  split at e
  ·cases e
  ·cases e
   have:=hp.to
   exact⟨hp.px,by show 0≤m.To;omega,by show m.To<_;omega⟩
 have hq0:=(Eq hrest 0).2
 rw[List.take_zero,show Ex ([]:List Ao)=0 from rfl] at hq0
 have hq1:=(Eq hs.x.que 0).2
 rw[List.take_zero,show Ex ([]:List Ao)=0 from rfl] at hq1
 have ho0:=hs.x.own.sum0
 have hr0:=h.lv.ox.sum0
 have ht:=h.lv.tot
 have h3:=h.os3
 have h4:=hs.outs
 have h5:=hs.x.inns
 obtain⟨c1,c2,c3,c4⟩:=Tg (N:=N) (by omega) (by omega) hpx hs.x.out hs.out0 (by omega)
 rw[←h.lv.out_] at c1 c2 c3 c4
 have hml:=h.mlen
 rw[h.lv.ms_,List.length_append] at hml
 refine⟨h.lv.ox,?_,?_,c1,c2,c3,c4,λo ho=>?_,?_,PB λm hm=>hpx m (List.mem_filter.1 hm).1⟩
 ·rw[h.que]
  exact λx hx=>(List.mem_append.1 hx).elim (hrest x) (hsent x)
 ·have:=(Pa b s.Hour 0 l).2
  rw[h.que,Se]
  omega
 ·have e1:=(Pa b s.Hour o l).1
  have e2:=Sh ho h.ox3 h.lv.val h.lv.mv
  rw[←h.lv.own] at e2
  rw[h.que,TB]
  omega
 ·rw[h.que,List.length_append]
  have e1:(JY s.Hour s.Queue).length≤s.Queue.length:=List.length_filter_le _ _
  have e2:=List.length_filterMap_le (Kc b s.Hour) l
  omega
end Go.Proofs.YtblcgjadhemlbaaGreat
namespace Go.Proofs.YtblcgjadhemlbaaGreat
open Go.RowKit
set_option linter.unusedVariables false
set_option linter.unusedSimpArgs false
theorem aE {N:Nat}{b:AW}(hb:G1 b) {s:Ak}(hs:iX b s) {ts:List Fj}{r:Ak×List Ae×List Int}{ns:List Int}{o3:List (List Int)}{l:List Ae}(h:Qw N b s ts s.Own r ns o3 l) {o:Nat}(ho:o<b.Owners.length):MQ o o3+LA o (JY s.Hour s.Queue)=MQ o s.Own+LA o s.Queue+(v1 b.Owners.length ns.sum).getD o 0:=by
 have e1:=Rr o o3 b.Places.length (by rw[h.ox3.len];exact Nat.le_refl _)
 have e2:=Rr o s.Own b.Places.length (by rw[hs.own.len];exact Nat.le_refl _)
 rw[show o3.take b.Places.length=o3 by rw[←h.ox3.len,List.take_length]] at e1
 rw[show s.Own.take b.Places.length=s.Own by rw[←hs.own.len,List.take_length]] at e2
 have e3:=Ur ho (t:=s.Hour) hs.que s.Queue.length (Nat.le_refl _)
 rw[List.take_length] at e3
 have e4:=Kb (f:=λp=>(o3.getD p []).getD o 0) (g:=λp=>((s.Own.getD p []).getD o 0+(if 0=o then ns.getD p 0 else 0))+(KP b.Owners.length s.Hour s.Queue p).getD o 0) (n:=b.Places.length) λp hp=>by
  obtain⟨x,_,hxk,hxp⟩:=hs.own.ix hp
  have hnp:p<ns.length:=by rw[h.nl];exact hp
  have h3:=h.at3 p x _ hxk (List.getElem?_eq_getElem hnp)
  have hal:=PM hs.que (t:=s.Hour) (p:=p) s.Queue.length (Nat.le_refl _)
  rw[List.take_length] at hal
  have g1:o3.getD p []=E0 (E0 x (v1 b.Owners.length ns[p])) (KP b.Owners.length s.Hour s.Queue p):=by rw[List.getD_eq_getElem?_getD,h3];rfl
  have g2:s.Own.getD p []=x:=by rw[List.getD_eq_getElem?_getD,hxk];rfl
  have g3:ns.getD p 0=ns[p]:=by simp [List.getD_eq_getElem?_getD,hnp]
  show(o3.getD p []).getD o 0=((s.Own.getD p []).getD o 0+(if 0=o then ns.getD p 0 else 0))+(KP b.Owners.length s.Hour s.Queue p).getD o 0
  rw[g1,g2,g3,Ja (Js hxp.len (KW _ _)) hal.1 ho,Ja hxp.len (KW _ _) ho,Q4 hb.own1]
 rw[RC,RC] at e4
 have e5:sm (λp=>if 0=o then ns.getD p 0 else 0) b.Places.length=(v1 b.Owners.length ns.sum).getD o 0:=by
  rw[Q4 hb.own1]
  by_cases h0:0=o
  ·have:=V8 ns ns.length (Nat.le_refl _)
   rw[List.take_length,h.nl] at this
   rw[if_pos h0,←this]
   exact Kb λp _=>if_pos h0
  ·rw[if_neg h0]
   exact(Kb (g:=λ_=>0) λp _=>if_neg h0).trans (RB _)
 omega
theorem Pv {N:Nat}(hN:18446744073709551616<N) {b:AW}(hb:G1 b) {s:Ak}(hs:kE b s) (hq:s.Queue.length≤1000) {in_:Ct}{o1:List (List Int)}(ho1:HM b.Places.length b.Owners.length o1) (hsw:in_.Swaps.length=0→o1=s.Own) {r:Ak×List Ae×List Int}{ns:List Int}{o3:List (List Int)}{l:List Ae}(h:Qw N b s in_.Takes o1 r ns o3 l) (k1:Dy o3+Ex (JY s.Hour s.Queue)=Dy s.Own+Ex s.Queue+ns.sum) (k2:Tu in_.Rain ns) (k3:ns.sum=Ob in_.Rain b.Places.length∨Dy s.Own+Ex s.Queue+ns.sum=1125899906842624∨s.In.sum+ns.sum=1152921504606846976) (k4:s.In.sum+ns.sum≤1152921504606846976):(Option.bind (GV N s) λy89=>Option.bind (GV N r.1) λy104=>cond (((decide ((↑y104.length:Int)≠(↑b.Owners.length:Int)))||(decide ((↑r.1.In.length:Int)≠(↑y89.length:Int))))||(decide ((↑r.1.Out.length:Int)≠(↑y89.length:Int)))) (some false) (BL N r (CL N b s in_ true r y89 y104) N 0 0))=some true:=by
 have hN':1000000<N:=by omega
 have hP:=hb.pl
 have hW:=hb.own
 have hW1:=hb.own1
 have a:=Yi hN hb hs h
 obtain⟨hn2,hall⟩:=h.rain hb ho1 hs.x.que
 have hn0:=Hr h.n0
 have ho0:=hs.x.own.sum0
 have hq1:=(Eq hs.x.que 0).2
 rw[List.take_zero,show Ex ([]:List Ao)=0 from rfl] at hq1
 have hos3:=h.os3
 have hl0:=a.l0
 have hin1:=hs.x.inns
 have hr0:=a.own.sum0
 have hrq:=(Eq a.que 0).2
 rw[List.take_zero,show Ex ([]:List Ao)=0 from rfl] at hrq
 have hat:=a.tot
 have haos:=a.os
 have hso:=hs.outs
 have hql:=a.ql
 have hIl:r.1.In.length=b.Owners.length:=by rw[h.inn];exact Js hs.x.inn (KW _ _)
 have hIs:r.1.In.sum=s.In.sum+ns.sum:=by rw[h.inn,H1 (by rw[hs.x.inn,KW]),NF hW1]
 have hI0:∀x∈r.1.In,0≤x:=by
  rw[h.inn]
  refine NU hs.x.inn0 (Vn hW1 hn0 (by omega)).nn
 have hs0:=Hr hs.x.inn0
 obtain⟨v,ev,p1,p2,p3⟩:=UA hN' (W:=b.Owners.length) (P:=b.Places.length) (by omega) hs.x.own (by omega) (by omega) hs.x.que hs.x.inn hs.x.tot
 obtain⟨u,eu,q1,q2,q3⟩:=UA hN' (W:=b.Owners.length) (P:=b.Places.length) (s:=r.1) (by omega) a.own (by omega) (by omega) a.que hIl (by omega)
 rw[ev,Option.bind_some,eu,Option.bind_some,q1.len,p1.len,hIl,a.ol]
 have hR:HY (r.2.1.filter Vd)=ns.sum:=by
  rw[h.lv.ms_,List.filter_append,Kg,Sb hW1 h.n0,List.filter_eq_nil_iff.2 (λm hm=>by obtain⟨q,_,hq⟩:=h.lv.mv m hm;unfold Vd;simp [hq.way])]
  show _+(0:Int)=_
  omega
 have hc0:((decide (((b.Owners.length:Nat):Int)≠((b.Owners.length:Nat):Int))||decide (((b.Owners.length:Nat):Int)≠((b.Owners.length:Nat):Int)))||decide (((b.Owners.length:Nat):Int)≠((b.Owners.length:Nat):Int)))=false:=by simp
 rw[hc0,cond_false,dK hN' (W:=b.Owners.length) (by omega) h.mlen (λm hm=>(hall m hm).1) (by rw[hR];omega),hR]
 unfold CL
 rw[dJ hN' hP]
 unfold DO
 rw[dI hN' hW hW1 p1 q1 (g:=ns.sum) ⟨hn0,by omega⟩ hs.x.inn hs.x.inn0 hs.x.inns h.inn hs.x.out hs.out0 (by omega) a.ol a.o0 (by omega) (λe o ho=>by
  have e1:=hsw e
  subst e1
  have e2:=aE hb hs.x h ho
  have e3:=a.col o ho
  have e4:=a.oc o ho
  rw[q3 o ho,p3 o ho]
  omega)]
 exact dL hN' hW p1 q1 ⟨hn0,by omega⟩ (by have:=k2.sum;rw[h.nl] at this;exact this) hs.x.out hs.out0 (by omega) a.ol a.o0 (by omega) hIl hI0 (by omega) (by omega) (by omega)
theorem OB {N:Nat}(hN:18446744073709551616<N) (hsm:GP N=some true) (b:AW) (s:Ak) (in_:Ct):D0 N b s in_=some true:=by
 unfold D0 Hw II
 rw[hsm,Option.bind_some]
 cases hB:(((decide (6<(b.Places.length:Int))||decide (6<(b.Links.length:Int)))||decide (4<(b.Owners.length:Int)))||decide (12<(s.Queue.length:Int))) with
 |true=>rfl
 |false=>
  simp only[Bool.or_eq_false_iff,decide_eq_false_iff_not] at hB
  rw[cond_false,Option.bind_some]
  cases hC:((((decide ((in_.Rain.length:Int)≤8)&&decide ((in_.Faults.length:Int)≤8))&&decide ((in_.Cmds.length:Int)≤8))&&decide ((in_.Takes.length:Int)≤8))&&decide ((in_.Swaps.length:Int)≤8)) with
  |false=>rfl
  |true=>
   simp only[Bool.and_eq_true,decide_eq_true_eq] at hC
   obtain⟨v,ev,kv⟩:=WO hN b
   rw[cond_true,ev,Option.bind_some,Option.bind_some]
   cases v with
   |false=>rfl
   |true=>
    have hb:=kv rfl
    obtain⟨v,e2,k2⟩:=VB (N:=N) (by omega) hb.head s (by omega)
    rw[cond_true,e2,Option.bind_some,Option.bind_some,Option.bind_some]
    cases v with
    |false=>rfl
    |true=>
     have hs:=k2 rfl
     have hWo:=hb.head.own
     obtain⟨o1,eo,x1,x2,_⟩:=V5 (N:=N) (by omega) (b:=b) (s:=s) (in_:=in_) (W:=b.Owners.length) (by omega) (by omega) hs.x.own
     obtain⟨r,ns,o3,l,er,h,k1,k2,k3,k4⟩:=X4 hN hb.head hb.links hb.places hs.x (by omega) (in_:=in_) (by omega) (by omega) (by omega) eo x1 x2
     rw[Bool.not_true,cond_false,er,Option.bind_some]
     refine Pv hN hb.head hs (by omega) x1 (λe=>?_) h k1 k2 k3 k4
     have:=eo s.Gates
     rw[aF (by omega) (List.length_eq_zero_iff.1 e)] at this
     exact(Option.some.inj this).symm
theorem Mx (b:AW) (s:Ak) (in_:Ct):D0 BN b s in_=some true:=OB iP X6 b s in_
end Go.Proofs.YtblcgjadhemlbaaGreat
namespace Go.Proofs.YtblcgjadhemlbaaGreat
open Go.ChangeShapes Go.WideShapes Go.ChangeAt Go.RowKit Go.Deep
set_option linter.unusedVariables false
def ER {α}(P:Program) (t:TypeId) (r:AM α):Prop:=
 P.cellsOf t=r.sz∧∀{H:Type} {enc:TypeId×Value→H} {w:World} {base:Nat} {spare:Nat→Bool} {held:Bool} {fuel:Nat} {cs:List Value} {x:DataW H×List MemPlace},
  DataW.trod enc P w base spare held fuel t cs=some x→∃y,r.rd (λb=>b<w.heap.size) w.heap cs y
theorem YJ {n:Int}(h:(Lit.int .i64 n).wf=true):AG n:=by
 simpa [Lit.wf,IntKind.min,IntKind.max,IntKind.signed,IntKind.bits,AG] using h
theorem VN {P:Program}{t:TypeId}(hc:P.cellsOf t=1) (hu:P.underlying t=some (.int .i64)):ER P t AM.int:=by
 refine⟨hc,λ{H enc w base spare held fuel cs x} h=>?_⟩
 cases fuel with
 |zero=>simp [DataW.trod] at h
 |succ n=>
  unfold DataW.trod at h
  simp only[hu] at h
  split at h<;>simp_all
  rename_i k n' hh
  obtain⟨⟨rfl,hwf⟩,_⟩:=h
  subst hh
  exact⟨n',rfl,YJ hwf⟩
theorem Th {P:Program}{t:TypeId}(hc:P.cellsOf t=1) (hu:P.underlying t=some .bool):ER P t AM.bool:=by
 refine⟨hc,λ{H enc w base spare held fuel cs x} h=>?_⟩
 cases fuel with
 |zero=>simp [DataW.trod] at h
 |succ n=>
  unfold DataW.trod at h
  simp only[hu] at h
  split at h<;>first|(exact ⟨_,rfl⟩)|simp_all
theorem VM {P:Program}{t:TypeId}(hc:P.cellsOf t=1) (hu:P.underlying t=some .string):ER P t AM.str:=by
 refine⟨hc,λ{H enc w base spare held fuel cs x} h=>?_⟩
 cases fuel with
 |zero=>simp [DataW.trod] at h
 |succ n=>
  unfold DataW.trod at h
  simp only[hu] at h
  split at h<;>simp_all
  exact⟨_,rfl,h.1⟩
theorem OZ {α}{p:Nat→α→Prop}:∀n,(∀i,i<n→∃x,p i x)→∃l:List α,l.length=n∧∀i x,l[i]? =some x→p i x
 |0,_=>⟨[],rfl,λi x h=>by simp at h⟩
 |n+1,h=>by
  obtain⟨l,h1,h2⟩:=OZ n λi hi=>h i (by omega)
  obtain⟨x,hx⟩:=h n (by omega)
  refine⟨l++[x],by simp [h1],λi y hy=>?_⟩
  rw[List.getElem?_append] at hy
  split at hy
  ·exact h2 i y hy
  ·rename_i hi
   have:i-l.length=0:=by
    have:=(List.getElem?_eq_some_iff.1 hy).1
    simp at this;omega
   rw[this] at hy
   simp at hy
   subst hy
   have:i=n:=by omega
   subst this
   exact hx
theorem Fw {P:Program}{t e:TypeId}{α}{r:AM α}(hc:P.cellsOf t=1) (hu:P.underlying t=some (.slice e)) (he:ER P e r) (hz:Nat.blt 0 r.sz=true):ER P t (AM.sl r):=by
 refine⟨hc,λ{H enc w base spare held fuel cs x} h=>?_⟩
 have hz':0<r.sz:=(by simpa [Nat.blt] using hz:1≤r.sz)
 rcases open_slice hu h with ⟨rfl,_⟩|⟨a,len,cap,m,n,D,Pl,rfl,hb,hlc,hcm,hm,_,hel⟩
 ·exact⟨[],_,rfl,.inl ⟨rfl,rfl⟩⟩
 ·have hlm:len≤m:=by rw[hm];split<;>omega
  obtain⟨l,hl,hat⟩:=OZ (p:=λi x=>a.spot=none∧Pt (λb=>b<w.heap.size) w.heap r (.pointer (some ⟨a.block,a.off+i*r.sz,none⟩)) x) len λi hi=>by
   obtain⟨cs',hc',ht'⟩:=hel i (by omega)
   obtain⟨y,hy⟩:=he.2 ht'
   obtain⟨_,hlen,H5⟩:=World.cells?_some hc'
   rw[he.1] at hlen H5
   have hsp:a.spot=none:=by
    obtain⟨cs0,hc0,_⟩:=hel 0 (by omega)
    obtain⟨_,hlen0,hcell0⟩:=World.cells?_some hc0
    rw[he.1] at hlen0 hcell0
    have h0:=hcell0 0 hz'
    have ha:(a.add (0*r.sz)).add 0=a:=by simp [Addr.add]
    rw[ha] at h0
    cases hs:a.spot with
    |none=>rfl
    |some s=>
     have:w.cell? a=none:=by
      unfold World.cell?
      split
      ·simp [hs]
      ·rfl
     rw[this] at h0
     have:cs0[0]? =some (cs0[0]'(by omega)):=List.getElem?_eq_getElem (by omega)
     rw[this] at h0
     cases h0
   obtain⟨b,o,s⟩:=a
   simp only at hsp
   subst hsp
   have hadd:∀j,((⟨b,o,none⟩:Addr).add (i*r.sz)).add j=⟨b,o+i*r.sz+j,none⟩:=by
    intro j
    have e1:(⟨b,o,none⟩:Addr).add (i*r.sz)=⟨b,o+i*r.sz,none⟩:=by unfold Addr.add;split<;>simp_all
    rw[e1];unfold Addr.add;split<;>simp_all
   have hblk:b<w.heap.size:=by
    have h0:=H5 0 hz'
    rw[hadd] at h0
    have:cs'[0]? =some (cs'[0]'(by omega)):=List.getElem?_eq_getElem (by omega)
    rw[this] at h0
    exact World.block_lt_of_cell? w _ h0
   refine⟨y,rfl,cs',⟨⟨b,o+i*r.sz,none⟩,rfl,rfl,hblk,λj hj=>?_⟩,hy⟩
   have:=H5 j (by omega)
   rw[hadd] at this
   exact this
  exact⟨l,_,rfl,.inr ⟨a,cap,by rw[hl],by omega,hcm,hat⟩⟩
theorem DC {P:Program}{t:TypeId}{fs:Array Field}(hu:P.underlying t=some (.struct fs)) {H:Type}{enc:TypeId×Value→H}{w:World}{base:Nat}{spare:Nat→Bool}{held:Bool}{fuel:Nat}{cs:List Value}{x:DataW H×List MemPlace}
  (h:DataW.trod enc P w base spare held fuel t cs=some x):cs.length=P.cellsOf t∧∀(j:Nat) (f:Field) {α} (r:AM α),fs[j]? =some f→ER P f.type r→∃y,r.rd (λb=>b<w.heap.size) w.heap ((cs.drop f.offset).take r.sz) y:=by
 obtain⟨xs,n,_,_,hl,hlen,hf⟩:=DataW.trod_struct hu h
 refine⟨hl,λj f α r hj ho=>?_⟩
 have h1:=hf j f hj
 have hjl:j<xs.length:=by rw[hlen];exact(Array.getElem?_eq_some_iff.1 hj).1
 rw[List.getElem?_eq_getElem hjl,ho.1] at h1
 exact ho.2 h1
theorem Tq {P:Program}{t:TypeId}{fs:Array Field}{α}{r:AM α}(ho:ER P t r) (hag:r.ag=true) (hu:P.underlying t=some (.struct fs)) {H:Type}{enc:TypeId×Value→H}{w:World}{rch:Reach}{b0 base:Nat}{spare:Nat→Bool}{held:Bool}{v:Value}{d:DataW H}{p:List MemPlace}
  (hv:Value.okWide P w rch b0 t v) (h:DataW.Trod enc P w base spare held t v d p):∃y,Rd (λb=>b<w.heap.size) w.heap r v y:=by
 obtain⟨cs,rfl,_⟩:=okWide_struct hu hv
 obtain⟨fuel,hf⟩:=h
 obtain⟨y,hy⟩:=ho.2 hf
 exact⟨y,cs.toList,by simp [AM.val,hag],hy⟩
theorem M8 {H:Type}{enc:TypeId×Value→H}{P:Program}(hl:laidOutB P=true) {W W':World}(hb:Below W.heap.size W W'):
  ∀{ts:List TypeId} {vs:List Value} {ds:List (DataW H)} {ps:List MemPlace},(∀t∈ts,P.readableRec t=true∧t<P.types.size)→DataW.TrodAll enc P W 0 (λ_=>true) true ts vs ds ps→(∀x∈ps,x.block<W.heap.size)→
   ∀sp:Nat→Bool,(∀x∈ps,sp x.block=true)→DataW.TrodAll enc P W' 0 sp true ts vs ds ps
 |[],vs,ds,ps,_,h,_,sp,_=>by
  obtain⟨rfl,rfl,rfl⟩:=trodAll_nil h
  exact rfl
 |t::ts,vs,ds,ps,ht,h,hlt,sp,hsp=>by
  obtain⟨v,vs',d,ds',p,q,rfl,rfl,rfl,h1,h2⟩:=trodAll_cons h
  obtain⟨r1,r2⟩:=ht t (by simp)
  refine⟨p,q,WideElems.Trod_stays hl r1 r2 h1 (λx hx=>hb.same (hlt x (by simp [hx]))) (λx hx=>hsp x (by simp [hx])),?_,rfl⟩
  exact M8 hl hb (λt ht'=>ht t (by simp [ht'])) h2 (λx hx=>hlt x (by simp [hx])) sp λx hx=>hsp x (by simp [hx])
theorem Wc {H:Type}{enc:TypeId×Value→H}{P:Program}{f:Func}{s:ChangeSpec}{W W':World}{args:Array Value}{ds gs:List (DataW H)}{before:List MemPlace}{tb:TypeId}
  (hl:laidOutB P=true) (hts:f.params.toList.all (λt=>P.readableRec t&&decide (t<P.types.size))=true) (hW:DataW.Whole enc P f.params.toList s.vars false W args.toList ds gs before)
  (hr:f.resultTypes= #[tb]) (hu:P.underlying tb=some .bool) (hvars:s.vars=[]) (h1:(s.fn H (ds++gs)).results=[.lit (.bool true)]) (h2:(s.fn H (ds++gs)).args=ds) (h3:(s.fn H (ds++gs)).vars=[])
  (hb:Below W.heap.size W W'):s.post enc P f false true false false W args (.bool true) W':=by
 have hlt:∀p∈before,p.block<W.heap.size:=λp hp=>hW.lt p hp
 obtain⟨pa,pv,hA,hV,rfl,hz,hn⟩:=id hW
 rw[hvars] at hV
 obtain⟨rfl,rfl⟩:=trodVars_none hV
 simp only[List.append_nil] at*
 refine⟨ds,[],pa,[],pa,[],by simpa using hW,?_,?_,?_,?_,λh=>by cases h⟩
 ·simp only[List.append_nil]
  rw[h1,hr]
  exact trodAll_mk1 (shut_bool hu true)
 ·simp only[List.append_nil]
  rw[h2]
  refine M8 hl hb (λt ht=>?_) hA hlt _ λx hx=>by simpa using hlt x hx
  have:=List.all_eq_true.1 hts t ht
  simpa using this
 ·simp only[List.append_nil]
  rw[h3,hvars]
  exact rfl
 ·exact hb.frame _
theorem VQ {P:Program}{f:FuncId}{args:Array Value}{W:World}{L:(Nat→Prop)→Av→Prop}(k:CG P f args (λb=>b<W.heap.size) W.heap (λv S' h'=>v= .bool true∧L S' h')):
  Calls P f args W λe W'=>e= .returned (.bool true)∧Below W.heap.size W W':=
 (k W W ⟨rfl,rfl,rfl,rfl⟩).mono λe W' ⟨v,S',h',h1,h2,h3,h4,_⟩=>by
  subst h1;subst h4
  exact⟨rfl,h2.os,h2.tape,h2.out,by rw[h2.heap];exact h3.siz,λb hb=>by rw[h2.heap];exact h3.same b hb⟩
end Go.Proofs.YtblcgjadhemlbaaGreat
