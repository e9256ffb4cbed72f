import Derived.Test.YtblcgjadhemlbaaGreatTPureT4
import Derived.Test.YtblcgjadhemlbaaGreatTPureEx
import Derived.Test.YtblcgjadhemlbaaGreatTCore8
import Derived.ProofKit
import Derived.OpenShut
import Derived.JoinedCond
import Derived.Deep.Slices
namespace Go.Proofs.YtblcgjadhemlbaaGreat
open Go.RowKit
set_option linter.unusedVariables false
set_option linter.unusedSimpArgs false
theorem Z9 {N:Nat}(hN:1000000<N) {b:AW}{s:Am}{in_:Cy}(h4:in_.Swaps=[]) (gs:List Ax):GH N (⟨b,in_,({ s with Gates:=gs}:Am),([]:List Ah),(List.replicate ((b.Places.length:Int)).toNat (0:Int)),([]:List Av)⟩:An)=some s.Own:=by
 obtain⟨n,rfl⟩:∃n,N=n+1:=⟨N-1,by omega⟩
 unfold GH
 simp only[DX,h4]
 rfl
theorem TQ.rain {N:Nat}{b:AW}(hb:Ho b) {s:Am}{ts:List FK}{o1:List (List Int)}(ho1:I1 b.Places.length b.Owners.length o1) (hq:QX b.Places.length b.Owners.length s.Queue) {r:Am×List Ah×List Int}{ns:List Int}{o3:List (List Int)}{l:List Ah}(h:TQ N b s ts o1 r ns o3 l):(∀n∈ns,0≤n∧n≤1125899906842624)∧∀m∈r.2.1,PX b.Owners.length m.Part∧0<m.Part.sum:=by
 have hW1:=hb.own1
 have hn2:∀n∈ns,0≤n∧n≤1125899906842624:=λn hn=>by
  refine⟨h.n0 n hn,?_⟩
  obtain⟨i,hi⟩:=List.mem_iff_getElem?.1 hn
  have hil:=(List.getElem?_eq_some_iff.1 hi).1
  obtain⟨x,_,hx,hxp⟩:=ho1.ix (k:=i) (by rw[←h.nl];exact hil)
  have h3:=h.at3 i x n hx hi
  have h4:=(h.ox3.all _ (List.mem_of_getElem? h3)).mv
  have hal:=PR hq (t:=s.Hour) (p:=i) s.Queue.length (Nat.le_refl _)
  rw[List.take_length] at hal
  rw[Js (by rw[MF hxp.len (NJ _ _),hal.1]),Js (by rw[hxp.len,NJ]),PW hW1] at h4
  have:=hxp.sum0
  have:=Ip hal.2
  omega
 refine⟨hn2,λm hm=>?_⟩
 rw[h.lv.ms_] at hm
 rcases List.mem_append.1 hm with hm|hm
 ·obtain⟨k,n,h1,h2,h3⟩:=O9 hm
  rw[h3]
  exact⟨Vm hW1 (by omega) (hn2 n h1).2,by show 0<(v1 _ n).sum;rw[PW hW1];exact h2⟩
 ·obtain⟨p,_,hp⟩:=h.lv.mv m hm;exact⟨hp.px,hp.pos⟩
theorem V1 {N:Nat}(hN:18446744073709551616<N) {b:AW}(hb:Ho b) {s:Am}(hs:iP b s) (hq:s.Queue.length≤1000) {in_:Cy}(ht:in_.Takes.length≤1000) {r:Am×List Ah×List Int}{ns:List Int}{o3:List (List Int)}{l:List Ah}(h:TQ N b s in_.Takes s.Own r ns o3 l) {p o:Nat}(hp:p<b.Places.length) (ho:o<b.Owners.length) {x:List Int}(hx:s.Own[p]? =some x) (kc:Int→Option Bool):Bd N s (p:Int) (o:Int) (Cm N b in_ r (p:Int) (o:Int) kc) N (x.getD o 0) 0=kc ((o+1:Nat):Int):=by
 have hN':1000000<N:=by omega
 have hW:=hb.own
 have hW1:=hb.own1
 obtain⟨hn2,hall⟩:=h.rain hb hs.own hs.que
 have hxp:=hs.own.all x (List.mem_of_getElem? hx)
 have hnk:p<ns.length:=by rw[h.nl];exact hp
 have hnn:=hn2 _ (List.getElem_mem hnk)
 have hat:=h.at3 p x _ hx (List.getElem?_eq_getElem hnk)
 have hyp:=h.ox3.all _ (List.mem_of_getElem? hat)
 have hal:=PR hs.que (t:=s.Hour) (p:=p) s.Queue.length (Nat.le_refl _)
 rw[List.take_length] at hal
 have hv1:=Vm hW1 hnn.1 hnn.2
 have ho0:=hs.own.sum0
 have hqs:HY s.Queue≤1125899906842624:=by have:=hs.tot;omega
 have g1:=PG hxp.nn o
 have g2:=Rb hxp.nn o
 have g3:=hxp.mv
 have g4:=PG hyp.nn o
 have g5:=Rb hyp.nn o
 have g6:=hyp.mv
 have g7:=PG hal.2 o
 rw[cV hN' ho hq hs.que hqs g1 (by omega)]
 unfold Cm
 have hnw:∀m∈l,m.Way≠ -4:=λm hm=>by obtain⟨q,_,hm⟩:=h.lv.mv m hm;exact hm.way
 have hR:J0 o (r.2.1.filter (TU p))=(v1 b.Owners.length ns[p]).getD o 0:=by
  rw[h.lv.ms_,List.filter_append,Jz,WK ho (λn hn=>(hn2 n hn).1) (Nat.zero_le p) ns[p] (by rw[Nat.sub_zero];exact List.getElem?_eq_getElem hnk),List.filter_eq_nil_iff.2 (λm hm=>by unfold TU;simp [hnw m hm])]
  show _+(0:Int)=_
  exact Int.add_zero _
 have hv:(Fg (Fg x (v1 b.Owners.length ns[p])) (Lq b.Owners.length s.Hour s.Queue p)).getD o 0=x.getD o 0+(v1 b.Owners.length ns[p]).getD o 0+(Lq b.Owners.length s.Hour s.Queue p).getD o 0:=by
  rw[OB (MF hxp.len (NJ _ _)) hal.1 ho,OB hxp.len (NJ _ _) ho]
 have hG:J0 o (r.2.1.filter (PY p))=N0 b p o ((Fg (Fg x (v1 b.Owners.length ns[p])) (Lq b.Owners.length s.Hour s.Queue p)).getD o 0) in_.Takes 0:=by
  rw[h.lv.ms_,List.filter_append,Jz,h.tk p hp _ hat,List.filter_eq_nil_iff.2 (λm hm=>by
   obtain⟨k,n,h1,h2,h3⟩:=O9 hm
   rw[h3];unfold PY;simp),Mj hN (by omega) ho g4 hyp (Int.le_refl 0) g4 (by omega)]
  show(0:Int)+_=_
  omega
 have hA:=PQ (b:=b) (p:=p) (o:=o) g4 (ts:=in_.Takes) (Int.le_refl 0) g4
 rw[cU hN' h.mlen ho (λm hm=>⟨(hall m hm).1.len,(hall m hm).1.nn⟩) (by omega) (by rw[hR];omega) (by rw[hG];omega),hR,hG]
 unfold Ck
 rw[show x.getD o 0+(Lq b.Owners.length s.Hour s.Queue p).getD o 0+(v1 b.Owners.length ns[p]).getD o 0=(Fg (Fg x (v1 b.Owners.length ns[p])) (Lq b.Owners.length s.Hour s.Queue p)).getD o 0 by omega,XW hN' ht hp ho g4 (by omega),Option.bind_some]
 generalize N0 b p o ((Fg (Fg x (v1 b.Owners.length ns[p])) (Lq b.Owners.length s.Hour s.Queue p)).getD o 0) in_.Takes 0=a at hA
 rw[decide_eq_false (by omega),cond_false,BL (by omega)]
theorem TZ {N:Nat}(hN:18446744073709551616<N) {b:AW}(hb:Ho b) {s:Am}(hs:iP b s) (hq:s.Queue.length≤1000) {in_:Cy}(ht:in_.Takes.length≤1000) {r:Am×List Ah×List Int}{ns:List Int}{o3:List (List Int)}{l:List Ah}(h:TQ N b s in_.Takes s.Own r ns o3 l):Ap N b s in_ r (Aq N true r) N 0=some true:=by
 have hN':1000000<N:=by omega
 have hP:=hb.pl
 have hW:=hb.own
 have hml:=h.mlen
 obtain⟨hn2,hall⟩:=h.rain hb hs.own hs.que
 have e1:Ap N b s in_ r (Aq N true r) N 0=Aq N true r:=PD b.Places.length (λn i=>Ap N b s in_ r (Aq N true r) n i) (Aq N true r) (λn k hk=>by
  simp only[Ap];rw[E0 hk];rfl) (λn k hk=>by
  obtain⟨x,hx,hxk,hxp⟩:=hs.own.ix hk
  simp only[Ap]
  rw[Eu hk,cond_true]
  have e2:BC N b s in_ r (k:Int) (BD N (k:Int) (Ap N b s in_ r (Aq N true r) n)) N 0=BD N (k:Int) (Ap N b s in_ r (Aq N true r) n):=PD b.Owners.length (λn' i=>BC N b s in_ r (k:Int) (BD N (k:Int) (Ap N b s in_ r (Aq N true r) n)) n' i) (BD N (k:Int) (Ap N b s in_ r (Aq N true r) n)) (λn' j hj=>by
   simp only[BC];rw[E0 hj];rfl) (λn' j hj=>by
   simp only[BC]
   rw[Eu hj,cond_true,hx,Option.bind_some,RX (show j<x.length by rw[hxp.len];exact hj),Option.bind_some]
   exact V1 hN hb hs hq ht h hk hj hxk _) N 0 (by omega) (Nat.zero_le _)
  rw[e2]
  unfold BD
  rw[BL (by omega)]) N 0 (by omega) (Nat.zero_le _)
 rw[e1]
 unfold Aq
 exact PD r.2.1.length (λn i=>Bj N r (CB N true) n i) (CB N true) (λn k hk=>by
  simp only[Bj];rw[E0 hk];rfl) (λn k hk=>by
  have hm:=List.getElem_mem hk
  simp only[Bj]
  rw[Eu hk,cond_true,Zt hN' hk (by rw[(hall _ hm).1.len];omega)]
  unfold DH
  rw[BH hk,Option.bind_some,Option.bind_some,BL (by omega)]
  have:(decide ((r.2.1[k]).Way= -3)&&decide (((((r.2.1[k]).Part.filter (λx=>decide (0<x))).length:Nat):Int)≠1))=false:=by
   rw[Bool.and_eq_false_iff]
   simp only[decide_eq_false_iff_not]
   by_cases hw:(r.2.1[k]).Way= -3
   ·refine .inr ?_
    have hml:r.2.1[k]∈l:=by
     have key:∀m∈r.2.1,m∈RH s.Hour b.Owners.length 0 ns∨m∈l:=λm hm=>by
      rw[h.lv.ms_] at hm
      exact List.mem_append.1 hm
     rcases key _ hm with hm2|hm2
     ·obtain⟨j,n,_,_,h3⟩:=O9 hm2
      rw[h3] at hw
      exact absurd hw (by show ¬(-4:Int)= -3;decide)
     ·exact hm2
    obtain⟨p,hp,hmp⟩:=h.lv.mv _ hml
    obtain⟨y,_,hy,hyp⟩:=h.ox3.ix hp
    have hf:r.2.1[k]∈l.filter (PY p):=List.mem_filter.2 ⟨hml,by unfold PY;rw[hmp.fr,hw];simp⟩
    rw[h.tk p hp y hy] at hf
    obtain⟨i,c,hi,hc,e⟩:=NK hN (by omega) hyp _ hf
    rw[e,UJ hi hc]
    decide
   ·exact .inl hw
  rw[this,cond_false]) N 0 (by omega) (Nat.zero_le _)
theorem Q9 {N:Nat}(hN:18446744073709551616<N) (hsm:GS N=some true) (b:AW) (s:Am) (in_:Cy):FH N b s in_=some true:=by
 unfold FH Hz qQ
 rw[hsm,Option.bind_some]
 cases hB:(((decide (6<(b.Places.length:Int))||decide (6<(b.Links.length:Int)))||decide (4<(b.Owners.length:Int)))||decide (12<(s.Queue.length:Int))) with
 |true=>rfl
 |false=>
  simp only[Bool.or_eq_false_iff,decide_eq_false_iff_not] at hB
  rw[cond_false,Option.bind_some]
  cases hC:((((decide ((in_.Rain.length:Int)≤8)&&decide ((in_.Faults.length:Int)≤8))&&decide ((in_.Cmds.length:Int)≤8))&&decide ((in_.Takes.length:Int)≤8))&&decide ((in_.Swaps.length:Int)≤8)) with
  |false=>rfl
  |true=>
   simp only[Bool.and_eq_true,decide_eq_true_eq] at hC
   obtain⟨v,ev,kv⟩:=WL hN b
   rw[cond_true,ev,Option.bind_some,Option.bind_some]
   cases v with
   |false=>rfl
   |true=>
    have hb:=kv rfl
    obtain⟨v,e2,k2⟩:=VC (N:=N) (by omega) hb.head s (by omega)
    rw[cond_true,e2,Option.bind_some,Option.bind_some,Option.bind_some]
    cases v with
    |false=>rfl
    |true=>
     have hs:=k2 rfl
     rw[Bool.not_true,Bool.false_or]
     by_cases hsw:0<(in_.Swaps.length:Int)
     ·rw[decide_eq_true hsw];rfl
     ·rw[decide_eq_false hsw,cond_false]
      obtain⟨r,ns,o3,l,er,h⟩:=X0 hN hb.head hb.links hb.places hs.x (by omega) (in_:=in_) (by omega) (by omega) (by omega) (λgs=>Z9 (by omega) (List.length_eq_zero_iff.1 (by omega)) gs) hs.x.own rfl
      rw[er,Option.bind_some]
      exact TZ hN hb.head hs.x (by omega) (by omega) h
theorem Om (b:AW) (s:Am) (in_:Cy):FH BN b s in_=some true:=Q9 iH X2 b s in_
end Go.Proofs.YtblcgjadhemlbaaGreat
namespace Go.Proofs.YtblcgjadhemlbaaGreat
open Go.ChangeShapes Go.WideShapes Go.ChangeAt Go.RowKit Go.Deep
set_option linter.unusedVariables false
def EY {α}(P:Program) (t:TypeId) (r:AN α):Prop:=
 P.cellsOf t=r.sz∧∀{H:Type} {enc:TypeId×Value→H} {w:World} {base:Nat} {spare:Nat→Bool} {held:Bool} {fuel:Nat} {cs:List Value} {x:DataW H×List MemPlace},
  DataW.trod enc P w base spare held fuel t cs=some x→∃y,r.rd (λb=>b<w.heap.size) w.heap cs y
theorem YH {n:Int}(h:(Lit.int .i64 n).wf=true):AE n:=by
 simpa [Lit.wf,IntKind.min,IntKind.max,IntKind.signed,IntKind.bits,AE] using h
theorem VN {P:Program}{t:TypeId}(hc:P.cellsOf t=1) (hu:P.underlying t=some (.int .i64)):EY P t AN.int:=by
 refine⟨hc,λ{H enc w base spare held fuel cs x} h=>?_⟩
 cases fuel with
 |zero=>simp [DataW.trod] at h
 |succ n=>
  unfold DataW.trod at h
  simp only[hu] at h
  split at h<;>simp_all
  rename_i k n' hh
  obtain⟨⟨rfl,hwf⟩,_⟩:=h
  subst hh
  exact⟨n',rfl,YH hwf⟩
theorem Tm {P:Program}{t:TypeId}(hc:P.cellsOf t=1) (hu:P.underlying t=some .bool):EY P t AN.bool:=by
 refine⟨hc,λ{H enc w base spare held fuel cs x} h=>?_⟩
 cases fuel with
 |zero=>simp [DataW.trod] at h
 |succ n=>
  unfold DataW.trod at h
  simp only[hu] at h
  split at h<;>first|(exact ⟨_,rfl⟩)|simp_all
theorem VM {P:Program}{t:TypeId}(hc:P.cellsOf t=1) (hu:P.underlying t=some .string):EY P t AN.str:=by
 refine⟨hc,λ{H enc w base spare held fuel cs x} h=>?_⟩
 cases fuel with
 |zero=>simp [DataW.trod] at h
 |succ n=>
  unfold DataW.trod at h
  simp only[hu] at h
  split at h<;>simp_all
  exact⟨_,rfl,h.1⟩
theorem Oc {α}{p:Nat→α→Prop}:∀n,(∀i,i<n→∃x,p i x)→∃l:List α,l.length=n∧∀i x,l[i]? =some x→p i x
 |0,_=>⟨[],rfl,λi x h=>by simp at h⟩
 |n+1,h=>by
  obtain⟨l,h1,h2⟩:=Oc n λi hi=>h i (by omega)
  obtain⟨x,hx⟩:=h n (by omega)
  refine⟨l++[x],by simp [h1],λi y hy=>?_⟩
  rw[List.getElem?_append] at hy
  split at hy
  ·exact h2 i y hy
  ·rename_i hi
   have:i-l.length=0:=by
    have:=(List.getElem?_eq_some_iff.1 hy).1
    simp at this;omega
   rw[this] at hy
   simp at hy
   subst hy
   have:i=n:=by omega
   subst this
   exact hx
theorem F5 {P:Program}{t e:TypeId}{α}{r:AN α}(hc:P.cellsOf t=1) (hu:P.underlying t=some (.slice e)) (he:EY P e r) (hz:Nat.blt 0 r.sz=true):EY P t (AN.sl r):=by
 refine⟨hc,λ{H enc w base spare held fuel cs x} h=>?_⟩
 have hz':0<r.sz:=(by simpa [Nat.blt] using hz:1≤r.sz)
 rcases open_slice hu h with ⟨rfl,_⟩|⟨a,len,cap,m,n,D,Pl,rfl,hb,hlc,hcm,hm,_,hel⟩
 ·exact⟨[],_,rfl,.inl ⟨rfl,rfl⟩⟩
 ·have hlm:len≤m:=by rw[hm];split<;>omega
  obtain⟨l,hl,hat⟩:=Oc (p:=λi x=>a.spot=none∧Pt (λb=>b<w.heap.size) w.heap r (.pointer (some ⟨a.block,a.off+i*r.sz,none⟩)) x) len λi hi=>by
   obtain⟨cs',hc',ht'⟩:=hel i (by omega)
   obtain⟨y,hy⟩:=he.2 ht'
   obtain⟨_,hlen,H7⟩:=World.cells?_some hc'
   rw[he.1] at hlen H7
   have hsp:a.spot=none:=by
    obtain⟨cs0,hc0,_⟩:=hel 0 (by omega)
    obtain⟨_,hlen0,hcell0⟩:=World.cells?_some hc0
    rw[he.1] at hlen0 hcell0
    have h0:=hcell0 0 hz'
    have ha:(a.add (0*r.sz)).add 0=a:=by simp [Addr.add]
    rw[ha] at h0
    cases hs:a.spot with
    |none=>rfl
    |some s=>
     have:w.cell? a=none:=by
      unfold World.cell?
      split
      ·simp [hs]
      ·rfl
     rw[this] at h0
     have:cs0[0]? =some (cs0[0]'(by omega)):=List.getElem?_eq_getElem (by omega)
     rw[this] at h0
     cases h0
   obtain⟨b,o,s⟩:=a
   simp only at hsp
   subst hsp
   have hadd:∀j,((⟨b,o,none⟩:Addr).add (i*r.sz)).add j=⟨b,o+i*r.sz+j,none⟩:=by
    intro j
    have e1:(⟨b,o,none⟩:Addr).add (i*r.sz)=⟨b,o+i*r.sz,none⟩:=by unfold Addr.add;split<;>simp_all
    rw[e1];unfold Addr.add;split<;>simp_all
   have hblk:b<w.heap.size:=by
    have h0:=H7 0 hz'
    rw[hadd] at h0
    have:cs'[0]? =some (cs'[0]'(by omega)):=List.getElem?_eq_getElem (by omega)
    rw[this] at h0
    exact World.block_lt_of_cell? w _ h0
   refine⟨y,rfl,cs',⟨⟨b,o+i*r.sz,none⟩,rfl,rfl,hblk,λj hj=>?_⟩,hy⟩
   have:=H7 j (by omega)
   rw[hadd] at this
   exact this
  exact⟨l,_,rfl,.inr ⟨a,cap,by rw[hl],by omega,hcm,hat⟩⟩
theorem DI {P:Program}{t:TypeId}{fs:Array Field}(hu:P.underlying t=some (.struct fs)) {H:Type}{enc:TypeId×Value→H}{w:World}{base:Nat}{spare:Nat→Bool}{held:Bool}{fuel:Nat}{cs:List Value}{x:DataW H×List MemPlace}
  (h:DataW.trod enc P w base spare held fuel t cs=some x):cs.length=P.cellsOf t∧∀(j:Nat) (f:Field) {α} (r:AN α),fs[j]? =some f→EY P f.type r→∃y,r.rd (λb=>b<w.heap.size) w.heap ((cs.drop f.offset).take r.sz) y:=by
 obtain⟨xs,n,_,_,hl,hlen,hf⟩:=DataW.trod_struct hu h
 refine⟨hl,λj f α r hj ho=>?_⟩
 have h1:=hf j f hj
 have hjl:j<xs.length:=by rw[hlen];exact(Array.getElem?_eq_some_iff.1 hj).1
 rw[List.getElem?_eq_getElem hjl,ho.1] at h1
 exact ho.2 h1
theorem Tv {P:Program}{t:TypeId}{fs:Array Field}{α}{r:AN α}(ho:EY P t r) (hag:r.ag=true) (hu:P.underlying t=some (.struct fs)) {H:Type}{enc:TypeId×Value→H}{w:World}{rch:Reach}{b0 base:Nat}{spare:Nat→Bool}{held:Bool}{v:Value}{d:DataW H}{p:List MemPlace}
  (hv:Value.okWide P w rch b0 t v) (h:DataW.Trod enc P w base spare held t v d p):∃y,Rd (λb=>b<w.heap.size) w.heap r v y:=by
 obtain⟨cs,rfl,_⟩:=okWide_struct hu hv
 obtain⟨fuel,hf⟩:=h
 obtain⟨y,hy⟩:=ho.2 hf
 exact⟨y,cs.toList,by simp [AN.val,hag],hy⟩
theorem NC {H:Type}{enc:TypeId×Value→H}{P:Program}(hl:laidOutB P=true) {W W':World}(hb:Below W.heap.size W W'):
  ∀{ts:List TypeId} {vs:List Value} {ds:List (DataW H)} {ps:List MemPlace},(∀t∈ts,P.readableRec t=true∧t<P.types.size)→DataW.TrodAll enc P W 0 (λ_=>true) true ts vs ds ps→(∀x∈ps,x.block<W.heap.size)→
   ∀sp:Nat→Bool,(∀x∈ps,sp x.block=true)→DataW.TrodAll enc P W' 0 sp true ts vs ds ps
 |[],vs,ds,ps,_,h,_,sp,_=>by
  obtain⟨rfl,rfl,rfl⟩:=trodAll_nil h
  exact rfl
 |t::ts,vs,ds,ps,ht,h,hlt,sp,hsp=>by
  obtain⟨v,vs',d,ds',p,q,rfl,rfl,rfl,h1,h2⟩:=trodAll_cons h
  obtain⟨r1,r2⟩:=ht t (by simp)
  refine⟨p,q,WideElems.Trod_stays hl r1 r2 h1 (λx hx=>hb.same (hlt x (by simp [hx]))) (λx hx=>hsp x (by simp [hx])),?_,rfl⟩
  exact NC hl hb (λt ht'=>ht t (by simp [ht'])) h2 (λx hx=>hlt x (by simp [hx])) sp λx hx=>hsp x (by simp [hx])
theorem Wa {H:Type}{enc:TypeId×Value→H}{P:Program}{f:Func}{s:ChangeSpec}{W W':World}{args:Array Value}{ds gs:List (DataW H)}{before:List MemPlace}{tb:TypeId}
  (hl:laidOutB P=true) (hts:f.params.toList.all (λt=>P.readableRec t&&decide (t<P.types.size))=true) (hW:DataW.Whole enc P f.params.toList s.vars false W args.toList ds gs before)
  (hr:f.resultTypes= #[tb]) (hu:P.underlying tb=some .bool) (hvars:s.vars=[]) (h1:(s.fn H (ds++gs)).results=[.lit (.bool true)]) (h2:(s.fn H (ds++gs)).args=ds) (h3:(s.fn H (ds++gs)).vars=[])
  (hb:Below W.heap.size W W'):s.post enc P f false true false false W args (.bool true) W':=by
 have hlt:∀p∈before,p.block<W.heap.size:=λp hp=>hW.lt p hp
 obtain⟨pa,pv,hA,hV,rfl,hz,hn⟩:=id hW
 rw[hvars] at hV
 obtain⟨rfl,rfl⟩:=trodVars_none hV
 simp only[List.append_nil] at*
 refine⟨ds,[],pa,[],pa,[],by simpa using hW,?_,?_,?_,?_,λh=>by cases h⟩
 ·simp only[List.append_nil]
  rw[h1,hr]
  exact trodAll_mk1 (shut_bool hu true)
 ·simp only[List.append_nil]
  rw[h2]
  refine NC hl hb (λt ht=>?_) hA hlt _ λx hx=>by simpa using hlt x hx
  have:=List.all_eq_true.1 hts t ht
  simpa using this
 ·simp only[List.append_nil]
  rw[h3,hvars]
  exact rfl
 ·exact hb.frame _
theorem VQ {P:Program}{f:FuncId}{args:Array Value}{W:World}{L:(Nat→Prop)→Aw→Prop}(k:CL P f args (λb=>b<W.heap.size) W.heap (λv S' h'=>v= .bool true∧L S' h')):
  Calls P f args W λe W'=>e= .returned (.bool true)∧Below W.heap.size W W':=
 (k W W ⟨rfl,rfl,rfl,rfl⟩).mono λe W' ⟨v,S',h',h1,h2,h3,h4,_⟩=>by
  subst h1;subst h4
  exact⟨rfl,h2.os,h2.tape,h2.out,by rw[h2.heap];exact h3.siz,λb hb=>by rw[h2.heap];exact h3.same b hb⟩
end Go.Proofs.YtblcgjadhemlbaaGreat
