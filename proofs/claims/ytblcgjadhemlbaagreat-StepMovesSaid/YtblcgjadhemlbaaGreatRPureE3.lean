import Derived.Test.YtblcgjadhemlbaaGreatRPureE2
import Derived.Test.YtblcgjadhemlbaaGreatRPureEx
namespace Go.Proofs.YtblcgjadhemlbaaGreat
open Go.RowKit
set_option linter.unusedVariables false
set_option linter.unusedSimpArgs false
structure XI (W:Nat) (out:List Int) (ms:List Ak) (sn:List Al) (M:Nat):Prop where
 out:out.length=W
 mv:ms.length≤M
 sn:sn.length≤M
theorem XI.next {b:AX}{H:Int}{N W p M:Nat}{o o':List (List Int)}{out out':List Int}{ms ms':List Ak}{sn sn':List Al}{l:List Ak}(h:XI W out ms sn M) (k:R7 b H N W p o out ms sn o' out' ms' sn' l) {c:Nat}(hl:l.length≤c):XI W out' ms' sn' (M+c):=
 ⟨k.ol,by rw[k.ms_,List.length_append];have:=h.mv;omega,by
  rw[k.sn_,List.length_append]
  have:=List.length_filterMap_le (JS b H) l
  have:=h.sn
  omega⟩
theorem XI.le {W M M':Nat}{out:List Int}{ms:List Ak}{sn:List Al}(h:XI W out ms sn M) (hM:M≤M'):XI W out ms sn M':=⟨h.out,Nat.le_trans h.mv hM,Nat.le_trans h.sn hM⟩
theorem RT {α}{c:Prop}[Decidable c] {x:α}:(if c then [] else [x]).length≤1:=by split<;>simp
theorem Ql {N:Nat}(hN:18446744073709551616<N) {w:Aq}{H:Int}{W:Nat}(hH:w.s.Hour=H) (hW:W≤64) {p:Nat}(hp:p<w.b.Places.length) (hpl:Iv w.b w.b.Places[p]) {o:List (List Int)}{out:List Int}{ms:List Ak}{sn:List Al}{rem:List Int}{M:Nat}(hM:M≤999999) (ho:I0 w.b.Places.length W o) (h:XI W out ms sn M):
  ∃r l,C3 N w (p:Int) w.b.Places[p] o out ms sn rem=some r∧r.2.1=rem∧R7 w.b H N W p o out ms sn r.1 r.2.2.1 r.2.2.2.1 r.2.2.2.2 l∧l.length≤1∧∀x,r.1[p]? =some x→x.sum≤(w.b.Places[p]).Cap:=by
 have hN':1000000<N:=by omega
 have h1:=h.mv
 have h2:=h.sn
 have hcap:=hpl.cap
 unfold Iy at hcap
 have hgd:w.b.Places.getD p default=w.b.Places[p]:=by simp [List.getD_eq_getElem?_getD,hp]
 unfold C3
 obtain⟨x,hx,hxk,hxp⟩:=ho.ix hp
 have hmv:=hxp.mv
 have hs0:=hxp.sum0
 rw[hx,Option.bind_some,Option.bind_some,hxp.total hN' (by omega),Option.bind_some,EF (n:=x.sum-(w.b.Places[p]).Cap) (by omega) (by omega)]
 by_cases hov:0<x.sum-(w.b.Places[p]).Cap
 ·rw[decide_eq_true hov,cond_true,Fx,Option.bind_some]
  have he:gU w.b W p ⟨(w.b.Places[p]).Down,(w.b.Places[p]).Delay, -2,λy=>Ab N (x.sum-(w.b.Places[p]).Cap) y⟩:=⟨λy hy=>by obtain⟨t,e,h,_⟩:=Ni hN hW (x.sum-(w.b.Places[p]).Cap) y hy;exact⟨t,e,h⟩,by show(-2:Int)≠ -4;decide,hpl.down,by show _=O4 _ _ (-2);unfold O4;rw[if_neg (by omega),if_neg (by decide),hgd]⟩
  obtain⟨r,l,x',t,hr2,q1,q2,q3,q4,q5,q6⟩:=RS hN' (w:=(⟨w.b,w.in_,(⟨w.s.Hour,o,rem,w.s.Queue,w.s.Gates,w.s.In,out⟩:Aj),ms,w.peaks,sn⟩:Aq)) hH (by omega) ho hp he h.out (by show ms.length≤_;omega) (by show sn.length≤_;omega)
  simp only at q1 q2 q4 q5
  rw[hxk] at q1
  cases q1
  obtain⟨t',e',_,ts⟩:=Ni hN hW (x.sum-(w.b.Places[p]).Cap) x hxp
  rw[e'] at q2
  have q2:=congrArg Prod.fst (Option.some.inj q2)
  simp only at q2
  subst q2
  rw[hr2,Option.bind_some]
  refine⟨_,l,rfl,rfl,q5,by rw[q6];exact RT,λy hy=>?_⟩
  have hy:r.1[p]? =some y:=hy
  rw[q4,Fo (List.getElem?_eq_some_iff.1 hxk).1] at hy
  rw[←Option.some.inj hy,(q3.sub hxp).2.1,ts]
  omega
 ·rw[decide_eq_false hov,cond_false]
  refine⟨_,[],rfl,rfl,R7.nil ho h.out,by simp,λy hy=>?_⟩
  have hy:o[p]? =some y:=hy
  rw[hxk] at hy
  cases hy
  omega
theorem Qk {N:Nat}(hN:18446744073709551616<N) {w:Aq}{H:Int}{W:Nat}(hH:w.s.Hour=H) (hW:W≤64) {p:Nat}(hp:p<w.b.Places.length) (hpl:Iv w.b w.b.Places[p]) {o:List (List Int)}{out:List Int}{ms:List Ak}{sn:List Al}{rem:List Int}(y:Int×Int) {M:Nat}(hM:M≤999998) (ho:I0 w.b.Places.length W o) (h:XI W out ms sn M):
  ∃r l,FD N w (p:Int) w.b.Places[p] o out ms sn y (C3 N w (p:Int) w.b.Places[p]) rem=some r∧r.2.1=rem∧R7 w.b H N W p o out ms sn r.1 r.2.2.1 r.2.2.2.1 r.2.2.2.2 l∧l.length≤2∧∀x,r.1[p]? =some x→x.sum≤(w.b.Places[p]).Cap:=by
 have hN':1000000<N:=by omega
 have h1:=h.mv
 have h2:=h.sn
 have hgd:w.b.Places.getD p default=w.b.Places[p]:=by simp [List.getD_eq_getElem?_getD,hp]
 unfold FD
 rw[Fx,Option.bind_some]
 have he:gU w.b W p ⟨(w.b.Places[p]).Down,(w.b.Places[p]).Delay, -1,λx=>Ab N y.1 x⟩:=⟨λz hz=>by obtain⟨t,e,h,_⟩:=Ni hN hW y.1 z hz;exact⟨t,e,h⟩,by show(-1:Int)≠ -4;decide,hpl.down,by show _=O4 _ _ (-1);unfold O4;rw[if_neg (by omega),if_neg (by decide),hgd]⟩
 obtain⟨r,l,x',t,hr2,q1,q2,q3,q4,q5,q6⟩:=RS hN' (w:=(⟨w.b,w.in_,(⟨w.s.Hour,o,rem,w.s.Queue,w.s.Gates,w.s.In,out⟩:Aj),ms,w.peaks,sn⟩:Aq)) hH (by omega) ho hp he h.out (by show ms.length≤_;omega) (by show sn.length≤_;omega)
 have hl:l.length≤1:=by rw[q6];exact RT
 have hn:=h.next q5 hl
 rw[hr2,Option.bind_some]
 obtain⟨r',l',e',z1,z2,z3,z4⟩:=Ql hN hH hW hp hpl (rem:=rem) (M:=M+1) (by omega) q5.ox hn
 exact⟨r',l++l',e',z1,q5.trans z2,by rw[List.length_append];omega,z4⟩
theorem WE {N:Nat}(hN:1000000<N) {w:Aq}{H:Int}{W M:Nat}(hH:w.s.Hour=H) (hW:W≤64) {p:Nat}(hp:p<w.b.Places.length) (ho:I0 w.b.Places.length W w.s.Own) (h:XI W w.s.Out w.moves w.sent M) (hM:M≤900000) (ex:List AL) (hex:XL w.b W p ex) (hel:ex.length≤2000) (kj:List (List Int)→List Int→List Ak→List Al→Option (List (List Int)×List Int×List Int×List Ak×List Al)):
  ∃o out ms sn l,R7 w.b H N W p w.s.Own w.s.Out w.moves w.sent o out ms sn l∧l.length≤ex.length∧C2 N w (p:Int) ex kj N 0 w.s.Own w.s.Out w.moves w.sent=kj o out ms sn:=by
 obtain⟨⟨o,out,ms,sn⟩,⟨l,i1,i2⟩,e⟩:=DZ ex.length (λn i (s:List (List Int)×List Int×List Ak×List Al)=>C2 N w (p:Int) ex kj n i s.1 s.2.1 s.2.2.1 s.2.2.2) (λs=>kj s.1 s.2.1 s.2.2.1 s.2.2.2) (λk s=>∃l,R7 w.b H N W p w.s.Own w.s.Out w.moves w.sent s.1 s.2.1 s.2.2.1 s.2.2.2 l∧l.length≤k) (λn k s hk=>by
  simp only[C2];rw[Eh hk];rfl) (λn k s hi hk=>by
  obtain⟨o,out,ms,sn⟩:=s
  obtain⟨l,i1,i2⟩:=hi
  simp only at i1
  have hn:=h.next i1 i2
  have h1:=hn.mv
  have h2:=hn.sn
  simp only[C2]
  rw[Ee hk,cond_true,BF (by omega),BI hk,Option.bind_some,Option.bind_some]
  obtain⟨r,l',x',t,hr2,q1,q2,q3,q4,q5,q6⟩:=RS hN (w:=(⟨w.b,w.in_,(⟨w.s.Hour,o,w.s.Rem,w.s.Queue,w.s.Gates,w.s.In,out⟩:Aj),ms,w.peaks,sn⟩:Aq)) hH (by omega) i1.ox hp (hex _ (List.getElem_mem hk)) i1.ol (by show ms.length≤_;omega) (by show sn.length≤_;omega)
  have hl:l'.length≤1:=by rw[q6];exact RT
  rw[hr2,Option.bind_some]
  exact⟨(_,_,_,_),⟨l++l',i1.trans q5,by rw[List.length_append];omega⟩,rfl⟩) N 0 (w.s.Own,w.s.Out,w.moves,w.sent) ⟨[],R7.nil ho h.out,Nat.le_refl _⟩ (by omega) (Nat.zero_le _)
 exact⟨o,out,ms,sn,l,i1,i2,e⟩
theorem WG {N:Nat}(hN:18446744073709551616<N) {w:Aq}{H:Int}{W M:Nat}(hH:w.s.Hour=H) (hW:W≤64) (hL:w.b.Links.length≤900) (ht:w.in_.Takes.length≤1000) (hlk:∀l∈w.b.Links,Jr w.b l) (hpls:∀p∈w.b.Places,Iv w.b p) (hg:w.s.Gates.length=w.b.Links.length) (hpk:w.peaks.length=w.b.Places.length) (hrem:w.s.Rem.length=w.b.Places.length) {p:Nat}(hp:p<w.b.Places.length) (ho:I0 w.b.Places.length W w.s.Own) (h:XI W w.s.Out w.moves w.sent M) (hM:M≤900000):
  ∃r l,HQ N w (p:Int)=some r∧r.2.1.length=w.b.Places.length∧R7 w.b H N W p w.s.Own w.s.Out w.moves w.sent r.1 r.2.2.1 r.2.2.2.1 r.2.2.2.2 l∧l.length≤w.in_.Takes.length+w.b.Links.length+2∧∀x,r.1[p]? =some x→x.sum≤(w.b.Places[p]).Cap:=by
 have hN':1000000<N:=by omega
 have hpl:=hpls _ (List.getElem_mem hp)
 obtain⟨l1,a1,a2,a3⟩:=Vh hN hW ht hp
 obtain⟨l2,b1,b2,b3⟩:=WR hN hW (by omega) hlk hg hpk hp
 have hex:XL w.b W p (l1++l2):=λe he=>(List.mem_append.1 he).elim (a3 e) (b3 e)
 have hel:(l1++l2).length≤w.in_.Takes.length+w.b.Links.length:=by rw[List.length_append];omega
 unfold HQ
 rw[BI hp,Option.bind_some,a1,Option.bind_some,b1,Option.bind_some,VJ hN' _ _ (by omega) (by omega),Option.bind_some]
 obtain⟨o,out,ms,sn,l,i,i2,e⟩:=WE hN' hH hW hp ho h hM (l1++l2) hex (by omega) (FE N w (p:Int) w.b.Places[p])
 have hn:=h.next i i2
 rw[e]
 unfold FE
 cases decide ((w.b.Places[p]).Den≠0)
 ·obtain⟨r,l',hr,r1,r2,r3,r4⟩:=Ql hN hH hW hp hpl (rem:=w.s.Rem) (by omega) i.ox hn
  exact⟨r,l++l',hr,by rw[r1];exact hrem,i.trans r2,by rw[List.length_append];omega,r4⟩
 ·have hpk':p<w.peaks.length:=by omega
  have hrm':p<w.s.Rem.length:=by omega
  have hur:(upd w.s.Rem (p:Int) 0).length=w.b.Places.length:=by rw[L7];exact hrem
  obtain⟨x,hx,hxk,hxp⟩:=i.ox.ix hp
  obtain⟨y,hy⟩:=Vy hN w.b.Places[p] w.peaks[p] w.s.Rem[p]
  rw[cond_true,BI hpk',Option.bind_some,Option.bind_some,BI hrm',Option.bind_some,Option.bind_some,hy,Option.bind_some,Option.bind_some,Option.bind_some,hx,Option.bind_some,Option.bind_some,hxp.total hN' (by omega),Option.bind_some]
  cases decide (y.1≤x.sum)
  ·obtain⟨r,l',hr,r1,r2,r3,r4⟩:=Qk hN hH hW hp hpl (rem:=upd w.s.Rem (p:Int) 0) y (by omega) i.ox hn
   exact⟨r,l++l',hr,by rw[r1];exact hur,i.trans r2,by rw[List.length_append];omega,r4⟩
  ·rw[cond_true,BI (show p<(upd w.s.Rem (p:Int) 0).length by omega),Option.bind_some,Option.bind_some]
   obtain⟨r,l',hr,r1,r2,r3,r4⟩:=Qk hN hH hW hp hpl (rem:=upd (upd w.s.Rem (p:Int) 0) (p:Int) y.2) y (by omega) i.ox hn
   exact⟨r,l++l',hr,by rw[r1,L7];exact hur,i.trans r2,by rw[List.length_append];omega,r4⟩
structure jD (b:AX) (s:Aj):Prop where
 own:I0 b.Places.length b.Owners.length s.Own
 que:QX b.Places.length b.Owners.length s.Queue
 tot:Gn s.Own+IW s.Queue≤1125899906842624
 rem:s.Rem.length=b.Places.length
 gates:s.Gates.length=b.Links.length
 inn:s.In.length=b.Owners.length
 inn0:∀x∈s.In,0≤x
 inns:s.In.sum≤1152921504606846976
 out:s.Out.length=b.Owners.length
structure gN (b:AX) (H:Int) (N W k:Nat) (o:List (List Int)) (out:List Int) (ms:List Ak) (o':List (List Int)) (out':List Int) (ms':List Ak) (sn':List Al) (l:List Ak):Prop where
 mv:∀m∈l,∃p,p<k∧bN b H W p m
 ord:l.Pairwise λa c=>a.From≤c.From
 ms_:ms'=ms++l
 own:o'=L9 o l
 out_:out'=Pm N out l
 sn_:sn'=l.filterMap (JS b H)
 val:N4 l o
 ox:I0 b.Places.length W o'
 ol:out'.length=W
 tot:Gn o'+O2 l=Gn o
theorem gN.next {b:AX}{H:Int}{N W k:Nat}{o o' o'':List (List Int)}{out out' out'':List Int}{ms ms' ms'':List Ak}{sn' sn'':List Al}{l l':List Ak}(h:gN b H N W k o out ms o' out' ms' sn' l) (q:R7 b H N W k o' out' ms' sn' o'' out'' ms'' sn'' l'):gN b H N W (k+1) o out ms o'' out'' ms'' sn'' (l++l'):=
 ⟨λm hm=>(List.mem_append.1 hm).elim (λhm=>by obtain⟨p,h1,h2⟩:=h.mv m hm;exact⟨p,by omega,h2⟩) (λhm=>⟨k,by omega,q.mv m hm⟩),
  List.pairwise_append.2 ⟨h.ord,List.pairwise_iff_getElem.2 λi j hi hj _=>by
  rw[(q.mv _ (List.getElem_mem hi)).fr,(q.mv _ (List.getElem_mem hj)).fr];exact Int.le_refl _,λa ha c hc=>by
  obtain⟨p,h1,h2⟩:=h.mv a ha
  rw[h2.fr,(q.mv c hc).fr];omega⟩,
  by rw[q.ms_,h.ms_,List.append_assoc],by rw[q.own,h.own];unfold L9;rw[List.foldl_append],by rw[q.out_,h.out_];unfold Pm;rw[List.foldl_append],by rw[q.sn_,h.sn_,List.filterMap_append],h.val.app (by rw[←h.own];exact q.val),q.ox,q.ol,by rw[Sf];have:=h.tot;have:=q.tot;omega⟩
structure ZL (N:Nat) (b:AX) (s:Aj) (r:Aj×List Ak×List Int) (ns:List Int) (o3:List (List Int)) (l:List Ak):Prop where
 nl:ns.length=b.Places.length
 mlen:r.2.1.length≤100000
 n0:∀n∈ns,0≤n
 at3:∀(p:Nat) x n,s.Own[p]? =some x→ns[p]? =some n→o3[p]? =some (Fp (Fp x (v1 b.Owners.length n)) (Mi b.Owners.length s.Hour s.Queue p))
 ox3:I0 b.Places.length b.Owners.length o3
 pk:r.2.2=o3.map List.sum
 lv:gN b s.Hour N b.Owners.length b.Places.length o3 s.Out (RI s.Hour b.Owners.length 0 ns) r.1.Own r.1.Out r.2.1 (l.filterMap (JS b s.Hour)) l
 que:r.1.Queue=NL s.Hour s.Queue++l.filterMap (JS b s.Hour)
 hour:r.1.Hour=BD (s.Hour+1)
 inn:r.1.In=Fp s.In (v1 b.Owners.length ns.sum)
theorem Xg {N:Nat}(hN:18446744073709551616<N) {b:AX}(hb:qQ b) (hlk:∀l∈b.Links,Jr b l) (hpls:∀p∈b.Places,Iv b p) {s:Aj}(hs:jD b s) (hq:s.Queue.length≤1000) {in_:Ek}(h1:in_.Faults.length≤1000) (h2:in_.Cmds.length≤1000) (h3:in_.Takes.length≤1000) (h4:in_.Swaps=[]):
  ∃r ns o3 l,Ic N b s in_=some r∧ZL N b s r ns o3 l:=by
 have hP:=hb.pl
 have hL:=hb.li
 have hW:=hb.own
 have hW1:=hb.own1
 have hN':1000000<N:=by omega
 unfold Ic
 rw[VI hN' (by have:=hs.own.len;omega) (λx hx=>by have:=(hs.own.all x hx).len;omega) (by have:=hs.rem;omega) (by have:=hs.gates;omega) (by have:=hs.inn;omega) (by have:=hs.out;omega),Option.bind_some,Jo (by omega) _ (by decide)]
 have hg0:Uq b.Links.length s.Gates (jR s):=⟨hs.gates,λk hk=>by
  have:k<s.Gates.length:=by rw[hs.gates];exact hk
  simp [jR,List.getD_eq_getElem?_getD,this]⟩
 obtain⟨gs,eg,hg⟩:=WB hN' (w:=(⟨b,in_,s,([]:List Ak),(List.replicate ((b.Places.length:Int)).toNat (0:Int)),([]:List Al)⟩:Aq)) rfl (show b.Links.length≤1000 by omega) h1 h2 hg0
 rw[eg,Option.bind_some]
 have hsw:HN N (⟨b,in_,({ s with Gates:=gs}:Aj),([]:List Ak),(List.replicate ((b.Places.length:Int)).toNat (0:Int)),([]:List Al)⟩:Aq)=some s.Own:=by
  obtain⟨n,rfl⟩:∃n,N=n+1:=⟨N-1,by omega⟩
  unfold HN
  simp only[Dc,h4]
  rfl
 rw[hsw,Option.bind_some]
 obtain⟨ns,⟨a,c,ms,o2,inn⟩,ey,⟨q1,q2,q3,q4,q5,q6,⟨q7,q8⟩,q9,⟨q10,q11⟩,q12⟩⟩:=Xp hN' (w:=(⟨b,in_,(⟨s.Hour,s.Own,s.Rem,s.Queue,gs,s.In,s.Out⟩:Aj),([]:List Ak),(List.replicate ((b.Places.length:Int)).toNat (0:Int)),([]:List Al)⟩:Aq)) (W:=b.Owners.length) rfl hW1 hW hP hs.own hq hs.que hs.tot hs.inn hs.inn0 hs.inns rfl
 simp only at q1 q2 q3 q4 q5 q6 q7 q8 q9 q10 q11 q12 ey
 rw[ey,Option.bind_some]
 obtain⟨z,ez,⟨hz1,hz2,hz3,hz4,hz5⟩,hz6⟩:=aH hN' (w:=(⟨b,in_,(⟨s.Hour,o2,s.Rem,s.Queue,gs,inn,s.Out⟩:Aj),ms,(List.replicate ((b.Places.length:Int)).toNat (0:Int)),([]:List Al)⟩:Aq)) (W:=b.Owners.length) rfl hW hP hL hlk q4 hq hs.que (by show Gn o2+IW s.Queue≤_;omega) (Lh _ _) hg.1
 simp only at hz1 hz2 hz3 hz4 hz5 hz6
 rw[ez,Option.bind_some]
 have hml:=RH s.Hour b.Owners.length ns 0
 obtain⟨⟨o,rm,out,ms',sn⟩,⟨l,i1,i2,i3⟩,e⟩:=DZ b.Places.length (λn i (t:List (List Int)×List Int×List Int×List Ak×List Al)=>FX N b in_ s (o2,inn,ms) z (FY N s (o2,inn,ms) z) n i t.1 t.2.1 t.2.2.1 t.2.2.2.1 t.2.2.2.2) (λt=>FY N s (o2,inn,ms) z t.1 t.2.1 t.2.2.1 t.2.2.2.1 t.2.2.2.2) (λk t=>∃l,t.2.1.length=b.Places.length∧gN b s.Hour N b.Owners.length k z.1 s.Out ms t.1 t.2.2.1 t.2.2.2.1 t.2.2.2.2 l∧XI b.Owners.length t.2.2.1 t.2.2.2.1 t.2.2.2.2 (64+k*(in_.Takes.length+b.Links.length+2))) (λn k t hk=>by
  simp only[FX];rw[Eh hk];rfl) (λn k t hi hk=>by
  obtain⟨o,rm,out,ms',sn⟩:=t
  obtain⟨l,i1,i2,i3⟩:=hi
  simp only at i1 i2 i3
  simp only[FX]
  have hmul:k*(in_.Takes.length+b.Links.length+2)≤64*(1000+96+2):=Nat.mul_le_mul (by omega) (by omega)
  obtain⟨r,l',er,r1,r2,r3,r4⟩:=WG hN (w:=(⟨b,in_,(⟨s.Hour,o,rm,z.2.1,z.2.2.1,inn,out⟩:Aj),ms',z.2.2.2,sn⟩:Aq)) (H:=s.Hour) (W:=b.Owners.length) rfl (by omega) (by show b.Links.length≤_;omega) h3 hlk hpls hz6 (by show z.2.2.2.length=_;rw[hz4,List.length_map];exact hz1.len) i1 hk i2.ox i3 (by omega)
  rw[Ee hk,cond_true,er,Option.bind_some,BF (by omega)]
  have hM:64+(k+1)*(in_.Takes.length+b.Links.length+2)=64+k*(in_.Takes.length+b.Links.length+2)+(in_.Takes.length+b.Links.length+2):=by rw[Nat.succ_mul];omega
  exact⟨(_,_,_,_,_),⟨l++l',r1,i2.next r2,by rw[hM];exact i3.next r2 r3⟩,rfl⟩) N 0 (z.1,s.Rem,s.Out,ms,[]) ⟨[],hs.rem,⟨λm hm=>(by cases hm),.nil,by simp,rfl,rfl,rfl,trivial,hz1,hs.out,by simp [O2]⟩,⟨hs.out,by show ms.length≤_;rw[q3];omega,by simp⟩⟩ (by omega) (Nat.zero_le _)
 rw[show FX N b in_ s (o2,inn,ms) z (FY N s (o2,inn,ms) z) N 0 z.1 s.Rem s.Out ms ([]:List Al)=FY N s (o2,inn,ms) z o rm out ms' sn from e]
 simp only at i2 i3
 have hmul:b.Places.length*(in_.Takes.length+b.Links.length+2)≤64*(1000+96+2):=Nat.mul_le_mul hP (by omega)
 have hsn:=i3.sn
 have hmv:=i3.mv
 have hrq:z.2.1.length≤s.Queue.length:=by rw[hz3];exact List.length_filter_le _ _
 unfold FY
 rw[Ia (by omega)]
 refine⟨_,ns,z.1,l,rfl,⟨q1,by show ms'.length≤_;omega,q2,λp x n hx hn=>hz2 p _ (q5 p x n hx hn),hz1,hz4,?_,?_,rfl,q9⟩⟩
 ·rw[←i2.sn_,←q3];exact i2
 ·show z.2.1++sn=_
  rw[hz3,i2.sn_]
end Go.Proofs.YtblcgjadhemlbaaGreat
