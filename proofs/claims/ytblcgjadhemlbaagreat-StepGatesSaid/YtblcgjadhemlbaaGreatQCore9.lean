import Derived.Test.YtblcgjadhemlbaaGreatQPureSv
import Derived.Test.YtblcgjadhemlbaaGreatQCore8
import Derived.ProofKit
import Derived.OpenShut
import Derived.JoinedCond
import Derived.Deep.Slices
namespace Go.Proofs.YtblcgjadhemlbaaGreat
open Go.RowKit
set_option linter.unusedVariables false
set_option linter.unusedSimpArgs false
def Zy (N:Nat) (l:Au):Prop:=(0≤l.Positions∧l.Positions≤64)∧0≤l.Speed∧l.Speed≤l.Positions
theorem W7.pos {N:Nat}{b:AZ}{l:Au}(h:W7 N b l):Zy N l:=by
 by_cases h0:l.Kind=0
 ·have:=h.gate h0;exact⟨this.2.2.1,this.2.2.2.1⟩
 ·by_cases h2:l.Kind=2
  ·have:=h.pump h2;exact⟨⟨by omega,this.2.1.2⟩,this.2.2⟩
  ·have:=h.none_ h0 h2;exact⟨by omega,by omega⟩
theorem Wl {N:Nat}(hN:18446744073709551616<N) {b:AZ}(h:GL N b=some true):JV b∧∀l∈b.Links,W7 N b l:=by
 obtain⟨v,e,k⟩:=RO hN b
 rw[h] at e
 cases e
 have k:=k rfl
 refine⟨k,Tu hN k.head k.links ?_⟩
 unfold GL at h
 obtain⟨y9,_,h⟩:=bd h
 obtain⟨b12,h12,h⟩:=bd h
 obtain⟨b18,h18,h⟩:=bd h
 obtain⟨b24,h24,h⟩:=bd h
 obtain⟨b30,h30,h⟩:=bd h
 obtain⟨b36,h36,h⟩:=bd h
 obtain⟨b42,h42,h⟩:=bd h
 obtain⟨b48,h48,h⟩:=bd h
 obtain⟨b54,h54,h⟩:=bd h
 have up:∀{c:Bool} {x:Option Bool} {d:Bool},cond c (Option.bind x λy=>some y) (some false)=some d→d=true→c=true∧x=some true:=by
  intro c x d hc hd
  subst hd
  cases c
  ·cases hc
  ·cases x with
   |none=>cases hc
   |some y=>exact⟨rfl,hc⟩
 have t54:=Option.some.inj h
 have t48:=up h54 t54
 have t42:=up h48 t48.1
 have t36:=up h42 t42.1
 have t30:=up h36 t36.1
 have t24:=up h30 t30.1
 exact(up h24 t24.1).2
theorem Za {N:Nat}(hN:1000000<N) (in_:Ca) (k:Nat) (l:Au) (hf:in_.Faults.length≤1000) (kj:Int→Int→Bool→Bool→Option Bool) (g:Ak):
  Bg N in_ (k:Int) l kj N 0 g.Pos g.Target g.Stuck g.Open=kj (Nz N l k in_.Faults g).Pos (Nz N l k in_.Faults g).Target (Nz N l k in_.Faults g).Stuck (Nz N l k in_.Faults g).Open:=by
 obtain⟨s,i1,e⟩:=E5 in_.Faults.length (λn i (s:Ak)=>Bg N in_ (k:Int) l kj n i s.Pos s.Target s.Stuck s.Open) (λs=>kj s.Pos s.Target s.Stuck s.Open) (λi s=>s=Nz N l k (in_.Faults.take i) g) (λn i s hk=>by
  simp only[Bg];rw[E7 hk];rfl) (λn i s hi hk=>by
  simp only[Bg,D9]
  rw[E6 hk,cond_true,BQ hk,Option.bind_some,BH (by omega)]
  by_cases h:(in_.Faults[i]).Link=(k:Int)
  ·rw[decide_eq_true h,cond_true,Option.bind_some,(U8 N l _ _).1,Option.bind_some]
   exact⟨gF N l s (in_.Faults[i]).Kind,by rw[Lg hk,if_pos h,hi],rfl⟩
  ·rw[decide_eq_false h,cond_false]
   exact⟨s,by rw[Lg hk,if_neg h,hi],rfl⟩) N 0 g rfl (by omega) (Nat.zero_le _)
 rw[List.take_length] at i1
 subst i1
 exact e
theorem ZZ {N:Nat}(hN:1000000<N) (in_:Ca) (k:Nat) (l:Au) (hf:in_.Cmds.length≤1000) (kj:Int→Int→Bool→Bool→Option Bool) (g:Ak):
  Bf N in_ (k:Int) l kj N 0 g.Pos g.Target g.Stuck g.Open=kj (stA N l k in_.Cmds g).Pos (stA N l k in_.Cmds g).Target (stA N l k in_.Cmds g).Stuck (stA N l k in_.Cmds g).Open:=by
 obtain⟨s,i1,e⟩:=E5 in_.Cmds.length (λn i (s:Ak)=>Bf N in_ (k:Int) l kj n i s.Pos s.Target s.Stuck s.Open) (λs=>kj s.Pos s.Target s.Stuck s.Open) (λi s=>s=stA N l k (in_.Cmds.take i) g) (λn i s hk=>by
  simp only[Bf];rw[E7 hk];rfl) (λn i s hi hk=>by
  simp only[Bf,D8]
  rw[E6 hk,cond_true,BQ hk,Option.bind_some,BH (by omega)]
  by_cases h:(in_.Cmds[i]).Link=(k:Int)
  ·rw[decide_eq_true h,cond_true,Option.bind_some,(U9 N l _ _).1,Option.bind_some]
   exact⟨gA N l s (in_.Cmds[i]).Target,by rw[Lh hk,if_pos h,hi],rfl⟩
  ·rw[decide_eq_false h,cond_false]
   exact⟨s,by rw[Lh hk,if_neg h,hi],rfl⟩) N 0 g rfl (by omega) (Nat.zero_le _)
 rw[List.take_length] at i1
 subst i1
 exact e
theorem Zc {N:Nat}(hN:18446744073709551616<N) {b:AZ}{s:Al}{in_:Ca}{r:Al×List Av×List Int}{k:Nat}(hk:k<b.Links.length) (hl:W7 N b b.Links[k]) (hpk:r.2.2.length=b.Places.length) (hg:P4 b.Links.length r.1.Gates (Wa N b s in_ r.2.2)) (hs:Yy b s) (kc:Int→Option Bool):
  Ci N s in_ r (k:Int) b.Links[k] kc (stA N b.Links[k] k in_.Cmds (Nz N b.Links[k] k in_.Faults (U5 s k))).Pos (stA N b.Links[k] k in_.Cmds (Nz N b.Links[k] k in_.Faults (U5 s k))).Target (stA N b.Links[k] k in_.Cmds (Nz N b.Links[k] k in_.Faults (U5 s k))).Stuck (stA N b.Links[k] k in_.Cmds (Nz N b.Links[k] k in_.Faults (U5 s k))).Open=kc (BD ((k:Int)+1)):=by
 have hsk:k<s.Gates.length:=by rw[hs.len.gates];exact hk
 have hgd:U5 s k=s.Gates[k]:=by simp [U5,List.getD_eq_getElem?_getD,hsk]
 obtain⟨⟨p1,p2⟩,t1,t2⟩:=hs.gts k _ _ (List.getElem?_eq_getElem hk) (List.getElem?_eq_getElem hsk)
 obtain⟨⟨q1,q2⟩,q3,q4⟩:=hl.pos
 have fr:=hl.base.fr
 have hgk:=hg.ix hk
 unfold Wa at hgk
 rw[Nn hk,hgd] at hgk
 obtain⟨f1,f2⟩:=Sk N b.Links[k] k in_.Faults s.Gates[k]
 obtain⟨a1,a2,a3⟩:=Sm N b.Links[k] k q1 in_.Cmds (Nz N b.Links[k] k in_.Faults s.Gates[k]) (by rw[f2];exact⟨t1,t2⟩)
 have hst:in_.Faults.length=0→(Nz N b.Links[k] k in_.Faults s.Gates[k]).Stuck=(s.Gates[k]).Stuck:=λh=>by rw[List.length_eq_zero_iff.1 h];rfl
 rw[hgd]
 generalize Nz N b.Links[k] k in_.Faults s.Gates[k]=gf at*
 generalize stA N b.Links[k] k in_.Cmds gf=ga at*
 obtain⟨m1,m2,m3,m4⟩:=YY N b.Links[k] ga q2 ⟨q3,q4⟩ (by rw[a1,f1];exact⟨p1,p2⟩) a3
 have hga:(⟨ga.Pos,ga.Target,ga.Stuck,ga.Open⟩:Ak)=ga:=rfl
 unfold Ci
 rw[hga,U7,Option.bind_some,Up fr.1 (by rw[hpk];exact fr.2),Option.bind_some,Option.bind_some,(TB N _ _ _).1,Option.bind_some,hgk,Option.bind_some,BQ hsk,Option.bind_some,Option.bind_some]
 have hp:=(TB N b.Links[k] (gM N b.Links[k] ga) (YQ r.2.2 (b.Links[k]).From)).2.1
 generalize gS N b.Links[k] (gM N b.Links[k] ga) (YQ r.2.2 (b.Links[k]).From)=ge at hp
 have hd:BD (ge.Pos-(s.Gates[k]).Pos)=ge.Pos-(s.Gates[k]).Pos:=GF (by omega) (by omega)
 have hq:BD (0-(b.Links[k]).Speed)= -(b.Links[k]).Speed:=by rw[GF (by omega) (by omega)];omega
 rw[hd,hq,show Qh ge.v ge.v=true by simp [Qh,V9],decide_eq_false (show ¬(b.Links[k]).Speed<ge.Pos-(s.Gates[k]).Pos by omega),decide_eq_false (show ¬ge.Pos-(s.Gates[k]).Pos< -(b.Links[k]).Speed by omega)]
 have last:(Option.bind (cond (decide ((in_.Faults.length:Int)=0)) (Option.bind (some s.Gates[k]) λx420=>some x420.Stuck) (some false)) λb415=>some (b415&&decide (ge.Pos-(s.Gates[k]).Pos≠0)))=some false:=by
  by_cases h0:(in_.Faults.length:Int)=0
  ·rw[decide_eq_true h0,cond_true,Option.bind_some,Option.bind_some]
   cases hst2:(s.Gates[k]).Stuck
   ·rfl
   ·have e1:ga.Stuck=true:=by rw[a2,hst (by omega),hst2]
    have e2:=m4 e1
    rw[decide_eq_false (show ¬ge.Pos-(s.Gates[k]).Pos≠0 by rw[hp,e2,a1,f1];omega)]
    rfl
  ·rw[decide_eq_false h0];rfl
 simp only[Bool.not_true,Bool.or_self,cond_false]
 rw[last]
 rfl
theorem Zb {N:Nat}(hN:18446744073709551616<N) {b:AZ}(hL:b.Links.length≤96) (hl:∀l∈b.Links,W7 N b l) {s:Al}{in_:Ca}(hf:in_.Faults.length≤1000) (hc:in_.Cmds.length≤1000) {r:Al×List Av×List Int}(hpk:r.2.2.length=b.Places.length) (hg:P4 b.Links.length r.1.Gates (Wa N b s in_ r.2.2)) (hs:Yy b s) (kj:Option Bool):BF N b s in_ r kj N 0=kj:=
 QR b.Links.length (λn i=>BF N b s in_ r kj n i) kj (λn i hi=>by
  simp only[BF];rw[E7 hi];rfl) (λn k hk=>by
  have hsk:k<s.Gates.length:=by rw[hs.len.gates];exact hk
  have hgd:U5 s k=s.Gates[k]:=by simp [U5,List.getD_eq_getElem?_getD,hsk]
  simp only[BF]
  rw[E6 hk,cond_true,BQ hk,Option.bind_some,BQ hsk,Option.bind_some,Za (by omega) in_ k _ hf]
  unfold DT
  rw[ZZ (by omega) in_ k _ hc,←hgd,Zc hN hk (hl _ (List.getElem_mem hk)) hpk hg hs,BH (by omega)]) N 0 (by omega) (Nat.zero_le _)
theorem QD {N:Nat}(hN:18446744073709551616<N) (hsm:GA N=some true) (b:AZ) (s:Al) (in_:Ca):E2 N b s in_=some true:=by
 unfold E2 HU Hv
 rw[hsm,Option.bind_some]
 cases hB:(((decide (6<(b.Places.length:Int))||decide (6<(b.Links.length:Int)))||decide (4<(b.Owners.length:Int)))||decide (12<(s.Queue.length:Int))) with
 |true=>rfl
 |false=>
  simp only[Bool.or_eq_false_iff,decide_eq_false_iff_not] at hB
  rw[cond_false,Option.bind_some]
  cases hC:((((decide ((in_.Rain.length:Int)≤8)&&decide ((in_.Faults.length:Int)≤8))&&decide ((in_.Cmds.length:Int)≤8))&&decide ((in_.Takes.length:Int)≤8))&&decide ((in_.Swaps.length:Int)≤8)) with
  |false=>rfl
  |true=>
   simp only[Bool.and_eq_true,decide_eq_true_eq] at hC
   obtain⟨v,ev,kv⟩:=RO hN b
   rw[cond_true,ev,Option.bind_some,Option.bind_some]
   cases v with
   |false=>rfl
   |true=>
    obtain⟨hb,hl⟩:=Wl hN ev
    obtain⟨v,e2,k2⟩:=Tg (N:=N) (by omega) hb.head s (by omega)
    rw[cond_true,e2,Option.bind_some,Option.bind_some,Option.bind_some]
    cases v with
    |false=>rfl
    |true=>
     have hs:=k2 rfl
     obtain⟨r,er,h1,h2⟩:=WI hN hb.head hb.links hs.len (by omega) (in_:=in_) (by omega) (by omega) (by omega) (by omega)
     rw[Bool.not_true,cond_false,er,Option.bind_some,h1,h2.1,decide_eq_false (show ¬(b.Links.length:Int)≠b.Links.length by omega),decide_eq_false (show ¬(b.Places.length:Int)≠b.Places.length by omega)]
     simp only[Bool.or_self,cond_false]
     rw[Zb hN hb.head.li hl (by omega) (by omega) h1 h2 hs]
     rfl
theorem WJ:GA BN=some true:=by decide +kernel
theorem OB (b:AZ) (s:Al) (in_:Ca):E2 BN b s in_=some true:=QD cJ WJ b s in_
end Go.Proofs.YtblcgjadhemlbaaGreat
namespace Go.Proofs.YtblcgjadhemlbaaGreat
set_option linter.unusedSimpArgs false
open Go.ChangeShapes Go.WideShapes Go.ChangeAt Go.RowKit Go.Deep
set_option linter.unusedVariables false
def EN {α}(P:Program) (t:TypeId) (r:AN α):Prop:=
 P.cellsOf t=r.sz∧∀{H:Type} {enc:TypeId×Value→H} {w:World} {base:Nat} {spare:Nat→Bool} {held:Bool} {fuel:Nat} {cs:List Value} {x:DataW H×List MemPlace},
  DataW.trod enc P w base spare held fuel t cs=some x→∃y,r.rd (λb=>b<w.heap.size) w.heap cs y
theorem WV {n:Int}(h:(Lit.int .i64 n).wf=true):AI n:=by
 simpa [Lit.wf,IntKind.min,IntKind.max,IntKind.signed,IntKind.bits,AI] using h
theorem Tr {P:Program}{t:TypeId}(hc:P.cellsOf t=1) (hu:P.underlying t=some (.int .i64)):EN P t AN.int:=by
 refine⟨hc,λ{H enc w base spare held fuel cs x} h=>?_⟩
 cases fuel with
 |zero=>simp [DataW.trod] at h
 |succ n=>
  unfold DataW.trod at h
  simp only[hu] at h
  split at h<;>simp_all
  rename_i k n' hh
  obtain⟨⟨rfl,hwf⟩,_⟩:=h
  subst hh
  exact⟨n',rfl,WV hwf⟩
theorem SF {P:Program}{t:TypeId}(hc:P.cellsOf t=1) (hu:P.underlying t=some .bool):EN P t AN.bool:=by
 refine⟨hc,λ{H enc w base spare held fuel cs x} h=>?_⟩
 cases fuel with
 |zero=>simp [DataW.trod] at h
 |succ n=>
  unfold DataW.trod at h
  simp only[hu] at h
  split at h<;>first|(exact ⟨_,rfl⟩)|simp_all
theorem Tq {P:Program}{t:TypeId}(hc:P.cellsOf t=1) (hu:P.underlying t=some .string):EN P t AN.str:=by
 refine⟨hc,λ{H enc w base spare held fuel cs x} h=>?_⟩
 cases fuel with
 |zero=>simp [DataW.trod] at h
 |succ n=>
  unfold DataW.trod at h
  simp only[hu] at h
  split at h<;>simp_all
  exact⟨_,rfl,h.1⟩
theorem N2 {α}{p:Nat→α→Prop}:∀n,(∀i,i<n→∃x,p i x)→∃l:List α,l.length=n∧∀i x,l[i]? =some x→p i x
 |0,_=>⟨[],rfl,λi x h=>by simp at h⟩
 |n+1,h=>by
  obtain⟨l,h1,h2⟩:=N2 n λi hi=>h i (by omega)
  obtain⟨x,hx⟩:=h n (by omega)
  refine⟨l++[x],by simp [h1],λi y hy=>?_⟩
  rw[List.getElem?_append] at hy
  split at hy
  ·exact h2 i y hy
  ·rename_i hi
   have:i-l.length=0:=by
    have:=(List.getElem?_eq_some_iff.1 hy).1
    simp at this;omega
   rw[this] at hy
   simp at hy
   subst hy
   have:i=n:=by omega
   subst this
   exact hx
theorem Ff {P:Program}{t e:TypeId}{α}{r:AN α}(hc:P.cellsOf t=1) (hu:P.underlying t=some (.slice e)) (he:EN P e r) (hz:Nat.blt 0 r.sz=true):EN P t (AN.sl r):=by
 refine⟨hc,λ{H enc w base spare held fuel cs x} h=>?_⟩
 have hz':0<r.sz:=(by simpa [Nat.blt] using hz:1≤r.sz)
 rcases open_slice hu h with ⟨rfl,_⟩|⟨a,len,cap,m,n,D,Pl,rfl,hb,hlc,hcm,hm,_,hel⟩
 ·exact⟨[],_,rfl,.inl ⟨rfl,rfl⟩⟩
 ·have hlm:len≤m:=by rw[hm];split<;>omega
  obtain⟨l,hl,hat⟩:=N2 (p:=λi x=>a.spot=none∧Pt (λb=>b<w.heap.size) w.heap r (.pointer (some ⟨a.block,a.off+i*r.sz,none⟩)) x) len λi hi=>by
   obtain⟨cs',hc',ht'⟩:=hel i (by omega)
   obtain⟨y,hy⟩:=he.2 ht'
   obtain⟨_,hlen,Hb⟩:=World.cells?_some hc'
   rw[he.1] at hlen Hb
   have hsp:a.spot=none:=by
    obtain⟨cs0,hc0,_⟩:=hel 0 (by omega)
    obtain⟨_,hlen0,hcell0⟩:=World.cells?_some hc0
    rw[he.1] at hlen0 hcell0
    have h0:=hcell0 0 hz'
    have ha:(a.add (0*r.sz)).add 0=a:=by simp [Addr.add]
    rw[ha] at h0
    cases hs:a.spot with
    |none=>rfl
    |some s=>
     have:w.cell? a=none:=by
      unfold World.cell?
      split
      ·simp [hs]
      ·rfl
     rw[this] at h0
     have:cs0[0]? =some (cs0[0]'(by omega)):=List.getElem?_eq_getElem (by omega)
     rw[this] at h0
     cases h0
   obtain⟨b,o,s⟩:=a
   simp only at hsp
   subst hsp
   have hadd:∀j,((⟨b,o,none⟩:Addr).add (i*r.sz)).add j=⟨b,o+i*r.sz+j,none⟩:=by
    intro j
    have e1:(⟨b,o,none⟩:Addr).add (i*r.sz)=⟨b,o+i*r.sz,none⟩:=by unfold Addr.add;split<;>simp_all
    rw[e1];unfold Addr.add;split<;>simp_all
   have hblk:b<w.heap.size:=by
    have h0:=Hb 0 hz'
    rw[hadd] at h0
    have:cs'[0]? =some (cs'[0]'(by omega)):=List.getElem?_eq_getElem (by omega)
    rw[this] at h0
    exact World.block_lt_of_cell? w _ h0
   refine⟨y,rfl,cs',⟨⟨b,o+i*r.sz,none⟩,rfl,rfl,hblk,λj hj=>?_⟩,hy⟩
   have:=Hb j (by omega)
   rw[hadd] at this
   exact this
  exact⟨l,_,rfl,.inr ⟨a,cap,by rw[hl],by omega,hcm,hat⟩⟩
theorem DF {P:Program}{t:TypeId}{fs:Array Field}(hu:P.underlying t=some (.struct fs)) {H:Type}{enc:TypeId×Value→H}{w:World}{base:Nat}{spare:Nat→Bool}{held:Bool}{fuel:Nat}{cs:List Value}{x:DataW H×List MemPlace}
  (h:DataW.trod enc P w base spare held fuel t cs=some x):cs.length=P.cellsOf t∧∀(j:Nat) (f:Field) {α} (r:AN α),fs[j]? =some f→EN P f.type r→∃y,r.rd (λb=>b<w.heap.size) w.heap ((cs.drop f.offset).take r.sz) y:=by
 obtain⟨xs,n,_,_,hl,hlen,hf⟩:=DataW.trod_struct hu h
 refine⟨hl,λj f α r hj ho=>?_⟩
 have h1:=hf j f hj
 have hjl:j<xs.length:=by rw[hlen];exact(Array.getElem?_eq_some_iff.1 hj).1
 rw[List.getElem?_eq_getElem hjl,ho.1] at h1
 exact ho.2 h1
theorem SS {P:Program}{t:TypeId}{fs:Array Field}{α}{r:AN α}(ho:EN P t r) (hag:r.ag=true) (hu:P.underlying t=some (.struct fs)) {H:Type}{enc:TypeId×Value→H}{w:World}{rch:Reach}{b0 base:Nat}{spare:Nat→Bool}{held:Bool}{v:Value}{d:DataW H}{p:List MemPlace}
  (hv:Value.okWide P w rch b0 t v) (h:DataW.Trod enc P w base spare held t v d p):∃y,Rd (λb=>b<w.heap.size) w.heap r v y:=by
 obtain⟨cs,rfl,_⟩:=okWide_struct hu hv
 obtain⟨fuel,hf⟩:=h
 obtain⟨y,hy⟩:=ho.2 hf
 exact⟨y,cs.toList,by simp [AN.val,hag],hy⟩
theorem Mf {H:Type}{enc:TypeId×Value→H}{P:Program}(hl:laidOutB P=true) {W W':World}(hb:Below W.heap.size W W'):
  ∀{ts:List TypeId} {vs:List Value} {ds:List (DataW H)} {ps:List MemPlace},(∀t∈ts,P.readableRec t=true∧t<P.types.size)→DataW.TrodAll enc P W 0 (λ_=>true) true ts vs ds ps→(∀x∈ps,x.block<W.heap.size)→
   ∀sp:Nat→Bool,(∀x∈ps,sp x.block=true)→DataW.TrodAll enc P W' 0 sp true ts vs ds ps
 |[],vs,ds,ps,_,h,_,sp,_=>by
  obtain⟨rfl,rfl,rfl⟩:=trodAll_nil h
  exact rfl
 |t::ts,vs,ds,ps,ht,h,hlt,sp,hsp=>by
  obtain⟨v,vs',d,ds',p,q,rfl,rfl,rfl,h1,h2⟩:=trodAll_cons h
  obtain⟨r1,r2⟩:=ht t (by simp)
  refine⟨p,q,WideElems.Trod_stays hl r1 r2 h1 (λx hx=>hb.same (hlt x (by simp [hx]))) (λx hx=>hsp x (by simp [hx])),?_,rfl⟩
  exact Mf hl hb (λt ht'=>ht t (by simp [ht'])) h2 (λx hx=>hlt x (by simp [hx])) sp λx hx=>hsp x (by simp [hx])
theorem Uv {H:Type}{enc:TypeId×Value→H}{P:Program}{f:Func}{s:ChangeSpec}{W W':World}{args:Array Value}{ds gs:List (DataW H)}{before:List MemPlace}{tb:TypeId}
  (hl:laidOutB P=true) (hts:f.params.toList.all (λt=>P.readableRec t&&decide (t<P.types.size))=true) (hW:DataW.Whole enc P f.params.toList s.vars false W args.toList ds gs before)
  (hr:f.resultTypes= #[tb]) (hu:P.underlying tb=some .bool) (hvars:s.vars=[]) (h1:(s.fn H (ds++gs)).results=[.lit (.bool true)]) (h2:(s.fn H (ds++gs)).args=ds) (h3:(s.fn H (ds++gs)).vars=[])
  (hb:Below W.heap.size W W'):s.post enc P f false true false false W args (.bool true) W':=by
 have hlt:∀p∈before,p.block<W.heap.size:=λp hp=>hW.lt p hp
 obtain⟨pa,pv,hA,hV,rfl,hz,hn⟩:=id hW
 rw[hvars] at hV
 obtain⟨rfl,rfl⟩:=trodVars_none hV
 simp only[List.append_nil] at*
 refine⟨ds,[],pa,[],pa,[],by simpa using hW,?_,?_,?_,?_,λh=>by cases h⟩
 ·simp only[List.append_nil]
  rw[h1,hr]
  exact trodAll_mk1 (shut_bool hu true)
 ·simp only[List.append_nil]
  rw[h2]
  refine Mf hl hb (λt ht=>?_) hA hlt _ λx hx=>by simpa using hlt x hx
  have:=List.all_eq_true.1 hts t ht
  simpa using this
 ·simp only[List.append_nil]
  rw[h3,hvars]
  exact rfl
 ·exact hb.frame _
theorem Tv {P:Program}{f:FuncId}{args:Array Value}{W:World}{L:(Nat→Prop)→Aq→Prop}(k:CG P f args (λb=>b<W.heap.size) W.heap (λv S' h'=>v= .bool true∧L S' h')):
  Calls P f args W λe W'=>e= .returned (.bool true)∧Below W.heap.size W W':=
 (k W W ⟨rfl,rfl,rfl,rfl⟩).mono λe W' ⟨v,S',h',h1,h2,h3,h4,_⟩=>by
  subst h1;subst h4
  exact⟨rfl,h2.os,h2.tape,h2.out,by rw[h2.heap];exact h3.siz,λb hb=>by rw[h2.heap];exact h3.same b hb⟩
end Go.Proofs.YtblcgjadhemlbaaGreat
