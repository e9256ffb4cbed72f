import Derived.Test.YtblcgjadhemlbaaGreatTPureT1
namespace Go.Proofs.YtblcgjadhemlbaaGreat
open Go.RowKit
set_option linter.unusedVariables false
set_option linter.unusedSimpArgs false
theorem Ua {c:Prop}[Decidable c] {H a t way:Int}{y:List Int}(h:way≠ -3):∀m∈(if c then [] else [(⟨H,a,t,way,y⟩:Ah)]),m.Way≠ -3:=λm hm=>by
 split at hm
 ·cases hm
 ·rw[List.mem_singleton.1 hm];exact h
def PY (p:Nat) (m:Ah):Bool:=decide (m.From=(p:Int))&&decide (m.Way= -3)
theorem UE {p:Nat}{l:List Ah}(h:∀m∈l,m.Way≠ -3):l.filter (PY p)=[]:=List.filter_eq_nil_iff.2 λm hm=>by unfold PY;simp [h m hm]
theorem Qc {p q:Nat}(hpq:q≠p) {l:List Ah}(h:∀m∈l,m.From=(q:Int)):l.filter (PY p)=[]:=List.filter_eq_nil_iff.2 λm hm=>by unfold PY;rw[h m hm];simp;omega
theorem Xx {H:Int}{p N:Nat}{b:AW}{ts:List FK}{x:List Int}:(OZ H p (Gp N b p ts) x).filter (PY p)=OZ H p (Gp N b p ts) x:=List.filter_eq_self.2 λm hm=>by
 obtain⟨e,he,h1,h2⟩:=PB m hm
 obtain⟨t,_,rfl⟩:=List.mem_map.1 he
 unfold PY
 rw[h1,h2]
 simp [Lv]
theorem RO {p:Nat}:∀{l:List Ah}{o:List (List Int)}(h:∀m∈l,m.From=(p:Int)) {j:Nat}(hj:p≠j),(RP o l)[j]? =o[j]?
 |[],_,_,_,_=>rfl
 |m::l,o,h,j,hj=>by
  show(RP (upd o m.From (H4 (o.getD m.From.toNat []) m.Part)) l)[j]? =_
  rw[RO (p:=p) (l:=l) (λq hq=>h q (.tail _ hq)) hj,h m (.head _),Hr hj]
theorem Ql {N:Nat}(hN:18446744073709551616<N) {w:An}{H:Int}{W:Nat}(hH:w.s.Hour=H) (hW:W≤64) {p:Nat}(hp:p<w.b.Places.length) (hpl:Ij w.b w.b.Places[p]) {o:List (List Int)}{out:List Int}{ms:List Ah}{sn:List Av}{rem:List Int}{M:Nat}(hM:M≤999999) (ho:I1 w.b.Places.length W o) (h:Xe W out ms sn M):
  ∃r l,C4 N w (p:Int) w.b.Places[p] o out ms sn rem=some r∧r.2.1=rem∧SA w.b H N W p o out ms sn r.1 r.2.2.1 r.2.2.2.1 r.2.2.2.2 l∧l.length≤1∧(∀m∈l,m.Way≠ -3)∧∀x,r.1[p]? =some x→x.sum≤(w.b.Places[p]).Cap:=by
 have hN':1000000<N:=by omega
 have h1:=h.mv
 have h2:=h.sn
 have hcap:=hpl.cap
 unfold Io at hcap
 have hgd:w.b.Places.getD p default=w.b.Places[p]:=by simp [List.getD_eq_getElem?_getD,hp]
 unfold C4
 obtain⟨x,hx,hxk,hxp⟩:=ho.ix hp
 have hmv:=hxp.mv
 have hs0:=hxp.sum0
 rw[hx,Option.bind_some,Option.bind_some,hxp.total hN' (by omega),Option.bind_some,Dm (n:=x.sum-(w.b.Places[p]).Cap) (by omega) (by omega)]
 by_cases hov:0<x.sum-(w.b.Places[p]).Cap
 ·rw[decide_eq_true hov,cond_true,Fu,Option.bind_some]
  have he:cC w.b W p ⟨(w.b.Places[p]).Down,(w.b.Places[p]).Delay, -2,λy=>Ab N (x.sum-(w.b.Places[p]).Cap) y⟩:=⟨λy hy=>by obtain⟨t,e,h,_⟩:=Nc hN hW (x.sum-(w.b.Places[p]).Cap) y hy;exact⟨t,e,h⟩,by show(-2:Int)≠ -4;decide,hpl.down,by show _=QS _ _ (-2);unfold QS;rw[if_neg (by omega),if_neg (by decide),hgd]⟩
  obtain⟨r,l,x',t,hr2,q1,q2,q3,q4,q5,q6⟩:=RU hN' (w:=(⟨w.b,w.in_,(⟨w.s.Hour,o,rem,w.s.Queue,w.s.Gates,w.s.In,out⟩:Am),ms,w.peaks,sn⟩:An)) hH (by omega) ho hp he h.out (by show ms.length≤_;omega) (by show sn.length≤_;omega)
  simp only at q1 q2 q4 q5
  rw[hxk] at q1
  cases q1
  obtain⟨t',e',_,ts⟩:=Nc hN hW (x.sum-(w.b.Places[p]).Cap) x hxp
  rw[e'] at q2
  have q2:=congrArg Prod.fst (Option.some.inj q2)
  simp only at q2
  subst q2
  rw[hr2,Option.bind_some]
  refine⟨_,l,rfl,rfl,q5,by rw[q6];exact RY,by rw[q6];exact Ua (by show(-2:Int)≠ -3;decide),λy hy=>?_⟩
  have hy:r.1[p]? =some y:=hy
  rw[q4,Fi (List.getElem?_eq_some_iff.1 hxk).1] at hy
  rw[←Option.some.inj hy,(q3.sub hxp).2.1,ts]
  omega
 ·rw[decide_eq_false hov,cond_false]
  refine⟨_,[],rfl,rfl,SA.nil ho h.out,by simp,λm hm=>(by cases hm),λy hy=>?_⟩
  have hy:o[p]? =some y:=hy
  rw[hxk] at hy
  cases hy
  omega
theorem Qk {N:Nat}(hN:18446744073709551616<N) {w:An}{H:Int}{W:Nat}(hH:w.s.Hour=H) (hW:W≤64) {p:Nat}(hp:p<w.b.Places.length) (hpl:Ij w.b w.b.Places[p]) {o:List (List Int)}{out:List Int}{ms:List Ah}{sn:List Av}{rem:List Int}(y:Int×Int) {M:Nat}(hM:M≤999998) (ho:I1 w.b.Places.length W o) (h:Xe W out ms sn M):
  ∃r l,E6 N w (p:Int) w.b.Places[p] o out ms sn y (C4 N w (p:Int) w.b.Places[p]) rem=some r∧r.2.1=rem∧SA w.b H N W p o out ms sn r.1 r.2.2.1 r.2.2.2.1 r.2.2.2.2 l∧l.length≤2∧(∀m∈l,m.Way≠ -3)∧∀x,r.1[p]? =some x→x.sum≤(w.b.Places[p]).Cap:=by
 have hN':1000000<N:=by omega
 have h1:=h.mv
 have h2:=h.sn
 have hgd:w.b.Places.getD p default=w.b.Places[p]:=by simp [List.getD_eq_getElem?_getD,hp]
 unfold E6
 rw[Fu,Option.bind_some]
 have he:cC w.b W p ⟨(w.b.Places[p]).Down,(w.b.Places[p]).Delay, -1,λx=>Ab N y.1 x⟩:=⟨λz hz=>by obtain⟨t,e,h,_⟩:=Nc hN hW y.1 z hz;exact⟨t,e,h⟩,by show(-1:Int)≠ -4;decide,hpl.down,by show _=QS _ _ (-1);unfold QS;rw[if_neg (by omega),if_neg (by decide),hgd]⟩
 obtain⟨r,l,x',t,hr2,q1,q2,q3,q4,q5,q6⟩:=RU hN' (w:=(⟨w.b,w.in_,(⟨w.s.Hour,o,rem,w.s.Queue,w.s.Gates,w.s.In,out⟩:Am),ms,w.peaks,sn⟩:An)) hH (by omega) ho hp he h.out (by show ms.length≤_;omega) (by show sn.length≤_;omega)
 have hl:l.length≤1:=by rw[q6];exact RY
 have hn:=h.next q5 hl
 rw[hr2,Option.bind_some]
 obtain⟨r',l',e',z1,z2,z3,z5,z4⟩:=Ql hN hH hW hp hpl (rem:=rem) (M:=M+1) (by omega) q5.ox hn
 exact⟨r',l++l',e',z1,q5.trans z2,by rw[List.length_append];omega,λm hm=>(List.mem_append.1 hm).elim (λhm=>by rw[q6] at hm;exact Ua (by show(-1:Int)≠ -3;decide) m hm) (z5 m),z4⟩
theorem WZ {N:Nat}(hN:1000000<N) {w:An}{H:Int}{W M:Nat}(hH:w.s.Hour=H) (hW:W≤64) {p:Nat}(hp:p<w.b.Places.length) (ho:I1 w.b.Places.length W w.s.Own) (h:Xe W w.s.Out w.moves w.sent M) (hM:M≤900000) (ex:List AK) (hex:XL w.b W p ex) (hel:ex.length≤2000) (kj:List (List Int)→List Int→List Ah→List Av→Option (List (List Int)×List Int×List Int×List Ah×List Av)):
  ∃o out ms sn l,SA w.b H N W p w.s.Own w.s.Out w.moves w.sent o out ms sn l∧l.length≤ex.length∧(∀x,w.s.Own[p]? =some x→l=OZ H p ex x)∧C3 N w (p:Int) ex kj N 0 w.s.Own w.s.Out w.moves w.sent=kj o out ms sn:=by
 obtain⟨⟨o,out,ms,sn⟩,⟨l,i1,i2,i3⟩,e⟩:=D8 ex.length (λn i (s:List (List Int)×List Int×List Ah×List Av)=>C3 N w (p:Int) ex kj n i s.1 s.2.1 s.2.2.1 s.2.2.2) (λs=>kj s.1 s.2.1 s.2.2.1 s.2.2.2) (λk s=>∃l,SA w.b H N W p w.s.Own w.s.Out w.moves w.sent s.1 s.2.1 s.2.2.1 s.2.2.2 l∧l.length≤k∧∀x,w.s.Own[p]? =some x→l=OZ H p (ex.take k) x∧s.1[p]? =some (Vd (ex.take k) x)) (λn k s hk=>by
  simp only[C3];rw[E0 hk];rfl) (λn k s hi hk=>by
  obtain⟨o,out,ms,sn⟩:=s
  obtain⟨l,i1,i2,i3⟩:=hi
  simp only at i3
  simp only at i1
  have hn:=h.next i1 i2
  have h1:=hn.mv
  have h2:=hn.sn
  simp only[C3]
  rw[Eu hk,cond_true,BL (by omega),BH hk,Option.bind_some,Option.bind_some]
  obtain⟨r,l',x',t,hr2,q1,q2,q3,q4,q5,q6⟩:=RU hN (w:=(⟨w.b,w.in_,(⟨w.s.Hour,o,w.s.Rem,w.s.Queue,w.s.Gates,w.s.In,out⟩:Am),ms,w.peaks,sn⟩:An)) hH (by omega) i1.ox hp (hex _ (List.getElem_mem hk)) i1.ol (by show ms.length≤_;omega) (by show sn.length≤_;omega)
  have hl:l'.length≤1:=by rw[q6];exact RY
  rw[hr2,Option.bind_some]
  exact⟨(_,_,_,_),⟨l++l',i1.trans q5,by rw[List.length_append];omega,λx hx=>by
   obtain⟨u1,u2⟩:=i3 x hx
   have q1:o[p]? =some x':=q1
   have hxx:Vd (ex.take k) x=x':=Option.some.inj (u2.symm.trans q1)
   rw[List.take_succ_eq_append_getElem hk,PC,RQ,←u1,hxx]
   have v1:OZ H p [ex[k]] x'=(if t.sum≤0 then [] else [(⟨H,(p:Int),(ex[k]).to_,(ex[k]).way,t⟩:Ah)]):=by
    simp only[OZ];rw[q2];simp
   have v2:Vd [ex[k]] x'=H4 x' t:=by
    simp only[Vd];rw[q2]
   rw[v1,v2]
   refine⟨by rw[q6],?_⟩
   show r.1[p]? =_
   rw[q4]
   exact Fi (List.getElem?_eq_some_iff.1 q1).1 _⟩,rfl⟩) N 0 (w.s.Own,w.s.Out,w.moves,w.sent) ⟨[],SA.nil ho h.out,Nat.le_refl _,λx hx=>⟨rfl,hx⟩⟩ (by omega) (Nat.zero_le _)
 exact⟨o,out,ms,sn,l,i1,i2,λx hx=>by have:=(i3 x hx).1;rwa [List.take_length] at this,e⟩
theorem WY {N:Nat}(hN:18446744073709551616<N) {w:An}{H:Int}{W M:Nat}(hH:w.s.Hour=H) (hW:W≤64) (hL:w.b.Links.length≤900) (ht:w.in_.Takes.length≤1000) (hlk:∀l∈w.b.Links,Jf w.b l) (hpls:∀p∈w.b.Places,Ij w.b p) (hg:w.s.Gates.length=w.b.Links.length) (hpk:w.peaks.length=w.b.Places.length) (hrem:w.s.Rem.length=w.b.Places.length) {p:Nat}(hp:p<w.b.Places.length) (ho:I1 w.b.Places.length W w.s.Own) (h:Xe W w.s.Out w.moves w.sent M) (hM:M≤900000):
  ∃r l,HE N w (p:Int)=some r∧r.2.1.length=w.b.Places.length∧SA w.b H N W p w.s.Own w.s.Out w.moves w.sent r.1 r.2.2.1 r.2.2.2.1 r.2.2.2.2 l∧l.length≤w.in_.Takes.length+w.b.Links.length+2∧(∀x,w.s.Own[p]? =some x→l.filter (PY p)=OZ H p (Gp N w.b p w.in_.Takes) x)∧∀x,r.1[p]? =some x→x.sum≤(w.b.Places[p]).Cap:=by
 have hN':1000000<N:=by omega
 have hpl:=hpls _ (List.getElem_mem hp)
 have a1:=V0 hN (w:=w) ht hp
 have a2:=Qe N w.b p w.in_.Takes
 have a3:=V3 hN (b:=w.b) hW p w.in_.Takes
 generalize hl1:Gp N w.b p w.in_.Takes=l1 at a1 a2 a3
 obtain⟨l2,b1,b2,b3⟩:=Wl hN hW (by omega) hlk hg hpk hp
 have hex:XL w.b W p (l1++l2):=λe he=>(List.mem_append.1 he).elim (a3 e) λh=>(b3 e h).1
 have hel:(l1++l2).length≤w.in_.Takes.length+w.b.Links.length:=by rw[List.length_append];omega
 unfold HE
 rw[BH hp,Option.bind_some,a1,Option.bind_some,b1,Option.bind_some,VZ hN' _ _ (by omega) (by omega),Option.bind_some]
 obtain⟨o,out,ms,sn,l,i,i2,i3,e⟩:=WZ hN' hH hW hp ho h hM (l1++l2) hex (by omega) (E7 N w (p:Int) w.b.Places[p])
 have hn:=h.next i i2
 rw[e]
 have hf:∀l':List Ah,(∀m∈l',m.Way≠ -3)→∀x,w.s.Own[p]? =some x→(l++l').filter (PY p)=OZ H p l1 x:=λl' hl' x hx=>by
  rw[List.filter_append,UE hl',List.append_nil,i3 x hx,PC,List.filter_append,UE (l:=OZ H p l2 _) (λm hm=>by obtain⟨e',he',h1,_⟩:=PB m hm;have:=(b3 e' he').2;omega),List.append_nil,←hl1,Xx]
 unfold E7
 cases decide ((w.b.Places[p]).Den≠0)
 ·obtain⟨r,l',hr,r1,r2,r3,r5,r4⟩:=Ql hN hH hW hp hpl (rem:=w.s.Rem) (by omega) i.ox hn
  exact⟨r,l++l',hr,by rw[r1];exact hrem,i.trans r2,by rw[List.length_append];omega,hf l' r5,r4⟩
 ·have hpk':p<w.peaks.length:=by omega
  have hrm':p<w.s.Rem.length:=by omega
  have hur:(upd w.s.Rem (p:Int) 0).length=w.b.Places.length:=by rw[L3];exact hrem
  obtain⟨x,hx,hxk,hxp⟩:=i.ox.ix hp
  obtain⟨y,hy⟩:=WH hN w.b.Places[p] w.peaks[p] w.s.Rem[p]
  rw[cond_true,BH hpk',Option.bind_some,Option.bind_some,BH hrm',Option.bind_some,Option.bind_some,hy,Option.bind_some,Option.bind_some,Option.bind_some,hx,Option.bind_some,Option.bind_some,hxp.total hN' (by omega),Option.bind_some]
  cases decide (y.1≤x.sum)
  ·obtain⟨r,l',hr,r1,r2,r3,r5,r4⟩:=Qk hN hH hW hp hpl (rem:=upd w.s.Rem (p:Int) 0) y (by omega) i.ox hn
   exact⟨r,l++l',hr,by rw[r1];exact hur,i.trans r2,by rw[List.length_append];omega,hf l' r5,r4⟩
  ·rw[cond_true,BH (show p<(upd w.s.Rem (p:Int) 0).length by omega),Option.bind_some,Option.bind_some]
   obtain⟨r,l',hr,r1,r2,r3,r5,r4⟩:=Qk hN hH hW hp hpl (rem:=upd (upd w.s.Rem (p:Int) 0) (p:Int) y.2) y (by omega) i.ox hn
   exact⟨r,l++l',hr,by rw[r1,L3];exact hur,i.trans r2,by rw[List.length_append];omega,hf l' r5,r4⟩
structure TQ (N:Nat) (b:AW) (s:Am) (ts:List FK) (o1:List (List Int)) (r:Am×List Ah×List Int) (ns:List Int) (o3:List (List Int)) (l:List Ah):Prop where
 nl:ns.length=b.Places.length
 mlen:r.2.1.length≤100000
 n0:∀n∈ns,0≤n
 at3:∀(p:Nat) x n,o1[p]? =some x→ns[p]? =some n→o3[p]? =some (Fg (Fg x (v1 b.Owners.length n)) (Lq b.Owners.length s.Hour s.Queue p))
 ox3:I1 b.Places.length b.Owners.length o3
 os3:Fy o3+HY (OY s.Hour s.Queue)≤1125899906842624
 pk:r.2.2=o3.map List.sum
 lv:iB b s.Hour N b.Owners.length b.Places.length o3 s.Out (RH s.Hour b.Owners.length 0 ns) r.1.Own r.1.Out r.2.1 (l.filterMap (OX b s.Hour)) l
 que:r.1.Queue=OY s.Hour s.Queue++l.filterMap (OX b s.Hour)
 hour:r.1.Hour=BM (s.Hour+1)
 inn:r.1.In=Fg s.In (v1 b.Owners.length ns.sum)
 tk:∀p,p<b.Places.length→∀x,o3[p]? =some x→l.filter (PY p)=OZ s.Hour p (Gp N b p ts) x
 cap:∀(p:Nat) (hp:p<b.Places.length) x,r.1.Own[p]? =some x→x.sum≤(b.Places[p]).Cap
structure iO (N:Nat) (b:AW) (H:Int) (ts:List FK) (o3:List (List Int)) (k:Nat) (o:List (List Int)) (l:List Ah):Prop where
 tk:∀p,p<k→∀x,o3[p]? =some x→l.filter (PY p)=OZ H p (Gp N b p ts) x
 hi:∀p,k≤p→l.filter (PY p)=[]∧o[p]? =o3[p]?
 cap:∀(p:Nat) (hp:p<b.Places.length),p<k→∀x,o[p]? =some x→x.sum≤(b.Places[p]).Cap
theorem iO.next {N:Nat}{b:AW}{H:Int}{ts:List FK}{o3:List (List Int)}{k W:Nat}{o o':List (List Int)}{out out':List Int}{ms ms':List Ah}{sn sn':List Av}{l l':List Ah}(h:iO N b H ts o3 k o l) (hk:k<b.Places.length) (q:SA b H N W k o out ms sn o' out' ms' sn' l') (h5:∀x,o[k]? =some x→l'.filter (PY k)=OZ H k (Gp N b k ts) x) (h4:∀x,o'[k]? =some x→x.sum≤(b.Places[k]).Cap):iO N b H ts o3 (k+1) o' (l++l'):=by
 have fr:∀m∈l',m.From=(k:Int):=λm hm=>(q.mv m hm).fr
 refine⟨λp hp x hx=>?_,λp hp=>⟨?_,?_⟩,λp hp hpk x hx=>?_⟩
 ·rw[List.filter_append]
  by_cases e:p=k
  ·subst e
   obtain⟨u1,u2⟩:=h.hi p (Nat.le_refl _)
   rw[u1,List.nil_append]
   exact h5 x (u2.trans hx)
  ·rw[Qc (λe'=>e e'.symm) fr,List.append_nil]
   exact h.tk p (by omega) x hx
 ·rw[List.filter_append,(h.hi p (by omega)).1,Qc (by omega) fr];rfl
 ·rw[q.own,RO fr (by omega)];exact(h.hi p (by omega)).2
 ·by_cases e:p=k
  ·subst e;exact h4 x hx
  ·rw[q.own,RO fr (λe'=>e e'.symm)] at hx
   exact h.cap p hp (by omega) x hx
theorem X0 {N:Nat}(hN:18446744073709551616<N) {b:AW}(hb:Ho b) (hlk:∀l∈b.Links,Jf b l) (hpls:∀p∈b.Places,Ij b p) {s:Am}(hs:iP b s) (hq:s.Queue.length≤1000) {in_:Cy}(h1:in_.Faults.length≤1000) (h2:in_.Cmds.length≤1000) (h3:in_.Takes.length≤1000) {o1:List (List Int)}(h4:∀gs:List Ax,GH N (⟨b,in_,({ s with Gates:=gs}:Am),([]:List Ah),(List.replicate ((b.Places.length:Int)).toNat (0:Int)),([]:List Av)⟩:An)=some o1) (ho1:I1 b.Places.length b.Owners.length o1) (hs1:Fy o1=Fy s.Own):
  ∃r ns o3 l,IU N b s in_=some r∧TQ N b s in_.Takes o1 r ns o3 l:=by
 have hP:=hb.pl
 have hL:=hb.li
 have hW:=hb.own
 have hW1:=hb.own1
 have hN':1000000<N:=by omega
 unfold IU
 rw[VY hN' (by have:=hs.own.len;omega) (λx hx=>by have:=(hs.own.all x hx).len;omega) (by have:=hs.rem;omega) (by have:=hs.gates;omega) (by have:=hs.inn;omega) (by have:=hs.out;omega),Option.bind_some,Jd (by omega) _ (by decide)]
 have hg0:U5 b.Links.length s.Gates (kH s):=⟨hs.gates,λk hk=>by
  have:k<s.Gates.length:=by rw[hs.gates];exact hk
  simp [kH,List.getD_eq_getElem?_getD,this]⟩
 obtain⟨gs,eg,hg⟩:=WV hN' (w:=(⟨b,in_,s,([]:List Ah),(List.replicate ((b.Places.length:Int)).toNat (0:Int)),([]:List Av)⟩:An)) rfl (show b.Links.length≤1000 by omega) h1 h2 hg0
 rw[eg,Option.bind_some]
 have hsw:=h4 gs
 rw[hsw,Option.bind_some]
 obtain⟨ns,⟨a,c,ms,o2,inn⟩,ey,⟨q1,q2,q3,q4,q5,q6,⟨q7,q8⟩,q9,⟨q10,q11⟩,q12⟩⟩:=X8 hN' (w:=(⟨b,in_,(⟨s.Hour,o1,s.Rem,s.Queue,gs,s.In,s.Out⟩:Am),([]:List Ah),(List.replicate ((b.Places.length:Int)).toNat (0:Int)),([]:List Av)⟩:An)) (W:=b.Owners.length) rfl hW1 hW hP ho1 hq hs.que (by show Fy o1+HY s.Queue≤_;rw[hs1];exact hs.tot) hs.inn hs.inn0 hs.inns rfl
 simp only at q1 q2 q3 q4 q5 q6 q7 q8 q9 q10 q11 q12 ey
 rw[ey,Option.bind_some]
 obtain⟨z,ez,⟨hz1,hz2,hz3,hz4,hz5⟩,hz6⟩:=aZ hN' (w:=(⟨b,in_,(⟨s.Hour,o2,s.Rem,s.Queue,gs,inn,s.Out⟩:Am),ms,(List.replicate ((b.Places.length:Int)).toNat (0:Int)),([]:List Av)⟩:An)) (W:=b.Owners.length) rfl hW hP hL hlk q4 hq hs.que (by show Fy o2+HY s.Queue≤_;omega) (Le _ _) hg.1
 simp only at hz1 hz2 hz3 hz4 hz5 hz6
 rw[ez,Option.bind_some]
 have hml:=RG s.Hour b.Owners.length ns 0
 obtain⟨⟨o,rm,out,ms',sn⟩,⟨l,i1,i2,i3,i4⟩,e⟩:=D8 b.Places.length (λn i (t:List (List Int)×List Int×List Int×List Ah×List Av)=>FT N b in_ s (o2,inn,ms) z (FU N s (o2,inn,ms) z) n i t.1 t.2.1 t.2.2.1 t.2.2.2.1 t.2.2.2.2) (λt=>FU N s (o2,inn,ms) z t.1 t.2.1 t.2.2.1 t.2.2.2.1 t.2.2.2.2) (λk t=>∃l,t.2.1.length=b.Places.length∧iB b s.Hour N b.Owners.length k z.1 s.Out ms t.1 t.2.2.1 t.2.2.2.1 t.2.2.2.2 l∧Xe b.Owners.length t.2.2.1 t.2.2.2.1 t.2.2.2.2 (64+k*(in_.Takes.length+b.Links.length+2))∧iO N b s.Hour in_.Takes z.1 k t.1 l) (λn k t hk=>by
  simp only[FT];rw[E0 hk];rfl) (λn k t hi hk=>by
  obtain⟨o,rm,out,ms',sn⟩:=t
  obtain⟨l,i1,i2,i3,i4⟩:=hi
  simp only at i1 i2 i3 i4
  simp only[FT]
  have hmul:k*(in_.Takes.length+b.Links.length+2)≤64*(1000+96+2):=Nat.mul_le_mul (by omega) (by omega)
  obtain⟨r,l',er,r1,r2,r3,r5,r4⟩:=WY hN (w:=(⟨b,in_,(⟨s.Hour,o,rm,z.2.1,z.2.2.1,inn,out⟩:Am),ms',z.2.2.2,sn⟩:An)) (H:=s.Hour) (W:=b.Owners.length) rfl (by omega) (by show b.Links.length≤_;omega) h3 hlk hpls hz6 (by show z.2.2.2.length=_;rw[hz4,List.length_map];exact hz1.len) i1 hk i2.ox i3 (by omega)
  rw[Eu hk,cond_true,er,Option.bind_some,BL (by omega)]
  have hM:64+(k+1)*(in_.Takes.length+b.Links.length+2)=64+k*(in_.Takes.length+b.Links.length+2)+(in_.Takes.length+b.Links.length+2):=by rw[Nat.succ_mul];omega
  exact⟨(_,_,_,_,_),⟨l++l',r1,i2.next r2,by rw[hM];exact i3.next r2 r3,i4.next hk r2 r5 r4⟩,rfl⟩) N 0 (z.1,s.Rem,s.Out,ms,[]) ⟨[],hs.rem,⟨λm hm=>(by cases hm),.nil,by simp,rfl,rfl,rfl,trivial,hz1,hs.out,by simp [Oz]⟩,⟨hs.out,by show ms.length≤_;rw[q3];omega,by simp⟩,⟨λp hp=>(by omega),λp _=>⟨rfl,rfl⟩,λp _ hp=>(by omega)⟩⟩ (by omega) (Nat.zero_le _)
 rw[show FT N b in_ s (o2,inn,ms) z (FU N s (o2,inn,ms) z) N 0 z.1 s.Rem s.Out ms ([]:List Av)=FU N s (o2,inn,ms) z o rm out ms' sn from e]
 simp only at i2 i3
 have hmul:b.Places.length*(in_.Takes.length+b.Links.length+2)≤64*(1000+96+2):=Nat.mul_le_mul hP (by omega)
 have hsn:=i3.sn
 have hmv:=i3.mv
 have hrq:z.2.1.length≤s.Queue.length:=by rw[hz3];exact List.length_filter_le _ _
 unfold FU
 rw[Jb (by omega)]
 refine⟨_,ns,z.1,l,rfl,⟨q1,by show ms'.length≤_;omega,q2,λp x n hx hn=>hz2 p _ (q5 p x n hx hn),hz1,?_,hz4,?_,?_,rfl,q9,i4.tk,λp hp x hx=>i4.cap p hp hp x hx⟩⟩
 ·show Fy z.1+_≤_
  rw[←hz3];omega
 ·rw[←i2.sn_,←q3];exact i2
 ·show z.2.1++sn=_
  rw[hz3,i2.sn_]
end Go.Proofs.YtblcgjadhemlbaaGreat
