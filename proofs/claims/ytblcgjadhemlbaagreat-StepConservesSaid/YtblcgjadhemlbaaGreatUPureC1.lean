import Derived.Test.YtblcgjadhemlbaaGreatUPureT1
import Derived.Test.YtblcgjadhemlbaaGreatUPureEx
namespace Go.Proofs.YtblcgjadhemlbaaGreat
open Go.RowKit
set_option linter.unusedVariables false
set_option linter.unusedSimpArgs false
theorem UZ {c:Prop}[Decidable c] {H a t way:Int}{y:List Int}(h:way≠ -3):∀m∈(if c then [] else [(⟨H,a,t,way,y⟩:Ae)]),m.Way≠ -3:=λm hm=>by
 split at hm
 ·cases hm
 ·rw[List.mem_singleton.1 hm];exact h
def Vc (p:Nat) (m:Ae):Bool:=decide (m.From=(p:Int))&&decide (m.Way= -3)
theorem UC {p:Nat}{l:List Ae}(h:∀m∈l,m.Way≠ -3):l.filter (Vc p)=[]:=List.filter_eq_nil_iff.2 λm hm=>by unfold Vc;simp [h m hm]
theorem QZ {p q:Nat}(hpq:q≠p) {l:List Ae}(h:∀m∈l,m.From=(q:Int)):l.filter (Vc p)=[]:=List.filter_eq_nil_iff.2 λm hm=>by unfold Vc;rw[h m hm];simp;omega
theorem X0 {H:Int}{p N:Nat}{b:AW}{ts:List Fj}{x:List Int}:(Qh H p (KY N b p ts) x).filter (Vc p)=Qh H p (KY N b p ts) x:=List.filter_eq_self.2 λm hm=>by
 obtain⟨e,he,h1,h2⟩:=O7 m hm
 obtain⟨t,_,rfl⟩:=List.mem_map.1 he
 unfold Vc
 rw[h1,h2]
 simp [UE]
theorem RO {p:Nat}:∀{l:List Ae}{o:List (List Int)}(h:∀m∈l,m.From=(p:Int)) {j:Nat}(hj:p≠j),(Ox o l)[j]? =o[j]?
 |[],_,_,_,_=>rfl
 |m::l,o,h,j,hj=>by
  show(Ox (upd o m.From (Ho (o.getD m.From.toNat []) m.Part)) l)[j]? =_
  rw[RO (p:=p) (l:=l) (λq hq=>h q (.tail _ hq)) hj,h m (.head _),Gy hj]
theorem Qj {N:Nat}(hN:18446744073709551616<N) {w:Aj}{H:Int}{W:Nat}(hH:w.s.Hour=H) (hW:W≤64) {p:Nat}(hp:p<w.b.Places.length) (hpl:IJ w.b w.b.Places[p]) {o:List (List Int)}{out:List Int}{ms:List Ae}{sn:List Ao}{rem:List Int}{M:Nat}(hM:M≤999999) (ho:HM w.b.Places.length W o) (h:Xh W out ms sn M):
  ∃r l,Cy N w (p:Int) w.b.Places[p] o out ms sn rem=some r∧r.2.1=rem∧R5 w.b H N W p o out ms sn r.1 r.2.2.1 r.2.2.2.1 r.2.2.2.2 l∧l.length≤1∧(∀m∈l,m.Way≠ -3)∧∀x,r.1[p]? =some x→x.sum≤(w.b.Places[p]).Cap:=by
 have hN':1000000<N:=by omega
 have h1:=h.mv
 have h2:=h.sn
 have hcap:=hpl.cap
 unfold Ik at hcap
 have hgd:w.b.Places.getD p default=w.b.Places[p]:=by simp [List.getD_eq_getElem?_getD,hp]
 unfold Cy
 obtain⟨x,hx,hxk,hxp⟩:=ho.ix hp
 have hmv:=hxp.mv
 have hs0:=hxp.sum0
 rw[hx,Option.bind_some,Option.bind_some,hxp.total hN' (by omega),Option.bind_some,DB (n:=x.sum-(w.b.Places[p]).Cap) (by omega) (by omega)]
 by_cases hov:0<x.sum-(w.b.Places[p]).Cap
 ·rw[decide_eq_true hov,cond_true,Fs,Option.bind_some]
  have he:cJ w.b W p ⟨(w.b.Places[p]).Down,(w.b.Places[p]).Delay, -2,λy=>Ab N (x.sum-(w.b.Places[p]).Cap) y⟩:=⟨λy hy=>by obtain⟨t,e,h,_⟩:=NX hN hW (x.sum-(w.b.Places[p]).Cap) y hy;exact⟨t,e,h⟩,by show(-2:Int)≠ -4;decide,hpl.down,by show _=Pu _ _ (-2);unfold Pu;rw[if_neg (by omega),if_neg (by decide),hgd]⟩
  obtain⟨r,l,x',t,hr2,q1,q2,q3,q4,q5,q6⟩:=RS hN' (w:=(⟨w.b,w.in_,(⟨w.s.Hour,o,rem,w.s.Queue,w.s.Gates,w.s.In,out⟩:Ak),ms,w.peaks,sn⟩:Aj)) hH (by omega) ho hp he h.out (by show ms.length≤_;omega) (by show sn.length≤_;omega)
  simp only at q1 q2 q4 q5
  rw[hxk] at q1
  cases q1
  obtain⟨t',e',_,ts⟩:=NX hN hW (x.sum-(w.b.Places[p]).Cap) x hxp
  rw[e'] at q2
  have q2:=congrArg Prod.fst (Option.some.inj q2)
  simp only at q2
  subst q2
  rw[hr2,Option.bind_some]
  refine⟨_,l,rfl,rfl,q5,by rw[q6];exact RU,by rw[q6];exact UZ (by show(-2:Int)≠ -3;decide),λy hy=>?_⟩
  have hy:r.1[p]? =some y:=hy
  rw[q4,FQ (List.getElem?_eq_some_iff.1 hxk).1] at hy
  rw[←Option.some.inj hy,(q3.sub hxp).2.1,ts]
  omega
 ·rw[decide_eq_false hov,cond_false]
  refine⟨_,[],rfl,rfl,R5.nil ho h.out,by simp,λm hm=>(by cases hm),λy hy=>?_⟩
  have hy:o[p]? =some y:=hy
  rw[hxk] at hy
  cases hy
  omega
theorem Qi {N:Nat}(hN:18446744073709551616<N) {w:Aj}{H:Int}{W:Nat}(hH:w.s.Hour=H) (hW:W≤64) {p:Nat}(hp:p<w.b.Places.length) (hpl:IJ w.b w.b.Places[p]) {o:List (List Int)}{out:List Int}{ms:List Ae}{sn:List Ao}{rem:List Int}(y:Int×Int) {M:Nat}(hM:M≤999998) (ho:HM w.b.Places.length W o) (h:Xh W out ms sn M):
  ∃r l,E5 N w (p:Int) w.b.Places[p] o out ms sn y (Cy N w (p:Int) w.b.Places[p]) rem=some r∧r.2.1=rem∧R5 w.b H N W p o out ms sn r.1 r.2.2.1 r.2.2.2.1 r.2.2.2.2 l∧l.length≤2∧(∀m∈l,m.Way≠ -3)∧∀x,r.1[p]? =some x→x.sum≤(w.b.Places[p]).Cap:=by
 have hN':1000000<N:=by omega
 have h1:=h.mv
 have h2:=h.sn
 have hgd:w.b.Places.getD p default=w.b.Places[p]:=by simp [List.getD_eq_getElem?_getD,hp]
 unfold E5
 rw[Fs,Option.bind_some]
 have he:cJ w.b W p ⟨(w.b.Places[p]).Down,(w.b.Places[p]).Delay, -1,λx=>Ab N y.1 x⟩:=⟨λz hz=>by obtain⟨t,e,h,_⟩:=NX hN hW y.1 z hz;exact⟨t,e,h⟩,by show(-1:Int)≠ -4;decide,hpl.down,by show _=Pu _ _ (-1);unfold Pu;rw[if_neg (by omega),if_neg (by decide),hgd]⟩
 obtain⟨r,l,x',t,hr2,q1,q2,q3,q4,q5,q6⟩:=RS hN' (w:=(⟨w.b,w.in_,(⟨w.s.Hour,o,rem,w.s.Queue,w.s.Gates,w.s.In,out⟩:Ak),ms,w.peaks,sn⟩:Aj)) hH (by omega) ho hp he h.out (by show ms.length≤_;omega) (by show sn.length≤_;omega)
 have hl:l.length≤1:=by rw[q6];exact RU
 have hn:=h.next q5 hl
 rw[hr2,Option.bind_some]
 obtain⟨r',l',e',z1,z2,z3,z5,z4⟩:=Qj hN hH hW hp hpl (rem:=rem) (M:=M+1) (by omega) q5.ox hn
 exact⟨r',l++l',e',z1,q5.trans z2,by rw[List.length_append];omega,λm hm=>(List.mem_append.1 hm).elim (λhm=>by rw[q6] at hm;exact UZ (by show(-1:Int)≠ -3;decide) m hm) (z5 m),z4⟩
theorem Wb {N:Nat}(hN:1000000<N) {w:Aj}{H:Int}{W M:Nat}(hH:w.s.Hour=H) (hW:W≤64) {p:Nat}(hp:p<w.b.Places.length) (ho:HM w.b.Places.length W w.s.Own) (h:Xh W w.s.Out w.moves w.sent M) (hM:M≤900000) (ex:List AK) (hex:XL w.b W p ex) (hel:ex.length≤2000) (kj:List (List Int)→List Int→List Ae→List Ao→Option (List (List Int)×List Int×List Int×List Ae×List Ao)):
  ∃o out ms sn l,R5 w.b H N W p w.s.Own w.s.Out w.moves w.sent o out ms sn l∧l.length≤ex.length∧(∀x,w.s.Own[p]? =some x→l=Qh H p ex x)∧Cx N w (p:Int) ex kj N 0 w.s.Own w.s.Out w.moves w.sent=kj o out ms sn:=by
 obtain⟨⟨o,out,ms,sn⟩,⟨l,i1,i2,i3⟩,e⟩:=Da ex.length (λn i (s:List (List Int)×List Int×List Ae×List Ao)=>Cx N w (p:Int) ex kj n i s.1 s.2.1 s.2.2.1 s.2.2.2) (λs=>kj s.1 s.2.1 s.2.2.1 s.2.2.2) (λk s=>∃l,R5 w.b H N W p w.s.Own w.s.Out w.moves w.sent s.1 s.2.1 s.2.2.1 s.2.2.2 l∧l.length≤k∧∀x,w.s.Own[p]? =some x→l=Qh H p (ex.take k) x∧s.1[p]? =some (Ve (ex.take k) x)) (λn k s hk=>by
  simp only[Cx];rw[Ey hk];rfl) (λn k s hi hk=>by
  obtain⟨o,out,ms,sn⟩:=s
  obtain⟨l,i1,i2,i3⟩:=hi
  simp only at i3
  simp only at i1
  have hn:=h.next i1 i2
  have h1:=hn.mv
  have h2:=hn.sn
  simp only[Cx]
  rw[Ea hk,cond_true,BE (by omega),BA hk,Option.bind_some,Option.bind_some]
  obtain⟨r,l',x',t,hr2,q1,q2,q3,q4,q5,q6⟩:=RS hN (w:=(⟨w.b,w.in_,(⟨w.s.Hour,o,w.s.Rem,w.s.Queue,w.s.Gates,w.s.In,out⟩:Ak),ms,w.peaks,sn⟩:Aj)) hH (by omega) i1.ox hp (hex _ (List.getElem_mem hk)) i1.ol (by show ms.length≤_;omega) (by show sn.length≤_;omega)
  have hl:l'.length≤1:=by rw[q6];exact RU
  rw[hr2,Option.bind_some]
  exact⟨(_,_,_,_),⟨l++l',i1.trans q5,by rw[List.length_append];omega,λx hx=>by
   obtain⟨u1,u2⟩:=i3 x hx
   have q1:o[p]? =some x':=q1
   have hxx:Ve (ex.take k) x=x':=Option.some.inj (u2.symm.trans q1)
   rw[List.take_succ_eq_append_getElem hk,O8,RP,←u1,hxx]
   have v1:Qh H p [ex[k]] x'=(if t.sum≤0 then [] else [(⟨H,(p:Int),(ex[k]).to_,(ex[k]).way,t⟩:Ae)]):=by
    simp only[Qh];rw[q2];simp
   have v2:Ve [ex[k]] x'=Ho x' t:=by
    simp only[Ve];rw[q2]
   rw[v1,v2]
   refine⟨by rw[q6],?_⟩
   show r.1[p]? =_
   rw[q4]
   exact FQ (List.getElem?_eq_some_iff.1 q1).1 _⟩,rfl⟩) N 0 (w.s.Own,w.s.Out,w.moves,w.sent) ⟨[],R5.nil ho h.out,Nat.le_refl _,λx hx=>⟨rfl,hx⟩⟩ (by omega) (Nat.zero_le _)
 exact⟨o,out,ms,sn,l,i1,i2,λx hx=>by have:=(i3 x hx).1;rwa [List.take_length] at this,e⟩
theorem Wa {N:Nat}(hN:18446744073709551616<N) {w:Aj}{H:Int}{W M:Nat}(hH:w.s.Hour=H) (hW:W≤64) (hL:w.b.Links.length≤900) (ht:w.in_.Takes.length≤1000) (hlk:∀l∈w.b.Links,JP w.b l) (hpls:∀p∈w.b.Places,IJ w.b p) (hg:w.s.Gates.length=w.b.Links.length) (hpk:w.peaks.length=w.b.Places.length) (hrem:w.s.Rem.length=w.b.Places.length) {p:Nat}(hp:p<w.b.Places.length) (ho:HM w.b.Places.length W w.s.Own) (h:Xh W w.s.Out w.moves w.sent M) (hM:M≤900000):
  ∃r l,HC N w (p:Int)=some r∧r.2.1.length=w.b.Places.length∧R5 w.b H N W p w.s.Own w.s.Out w.moves w.sent r.1 r.2.2.1 r.2.2.2.1 r.2.2.2.2 l∧l.length≤w.in_.Takes.length+w.b.Links.length+2∧(∀x,w.s.Own[p]? =some x→l.filter (Vc p)=Qh H p (KY N w.b p w.in_.Takes) x)∧∀x,r.1[p]? =some x→x.sum≤(w.b.Places[p]).Cap:=by
 have hN':1000000<N:=by omega
 have hpl:=hpls _ (List.getElem_mem hp)
 have a1:=V1 hN (w:=w) ht hp
 have a2:=Qb N w.b p w.in_.Takes
 have a3:=V3 hN (b:=w.b) hW p w.in_.Takes
 generalize hl1:KY N w.b p w.in_.Takes=l1 at a1 a2 a3
 obtain⟨l2,b1,b2,b3⟩:=Wo hN hW (by omega) hlk hg hpk hp
 have hex:XL w.b W p (l1++l2):=λe he=>(List.mem_append.1 he).elim (a3 e) λh=>(b3 e h).1
 have hel:(l1++l2).length≤w.in_.Takes.length+w.b.Links.length:=by rw[List.length_append];omega
 unfold HC
 rw[BA hp,Option.bind_some,a1,Option.bind_some,b1,Option.bind_some,VZ hN' _ _ (by omega) (by omega),Option.bind_some]
 obtain⟨o,out,ms,sn,l,i,i2,i3,e⟩:=Wb hN' hH hW hp ho h hM (l1++l2) hex (by omega) (E6 N w (p:Int) w.b.Places[p])
 have hn:=h.next i i2
 rw[e]
 have hf:∀l':List Ae,(∀m∈l',m.Way≠ -3)→∀x,w.s.Own[p]? =some x→(l++l').filter (Vc p)=Qh H p l1 x:=λl' hl' x hx=>by
  rw[List.filter_append,UC hl',List.append_nil,i3 x hx,O8,List.filter_append,UC (l:=Qh H p l2 _) (λm hm=>by obtain⟨e',he',h1,_⟩:=O7 m hm;have:=(b3 e' he').2;omega),List.append_nil,←hl1,X0]
 unfold E6
 cases decide ((w.b.Places[p]).Den≠0)
 ·obtain⟨r,l',hr,r1,r2,r3,r5,r4⟩:=Qj hN hH hW hp hpl (rem:=w.s.Rem) (by omega) i.ox hn
  exact⟨r,l++l',hr,by rw[r1];exact hrem,i.trans r2,by rw[List.length_append];omega,hf l' r5,r4⟩
 ·have hpk':p<w.peaks.length:=by omega
  have hrm':p<w.s.Rem.length:=by omega
  have hur:(upd w.s.Rem (p:Int) 0).length=w.b.Places.length:=by rw[Kt];exact hrem
  obtain⟨x,hx,hxk,hxp⟩:=i.ox.ix hp
  obtain⟨y,hy⟩:=WM hN w.b.Places[p] w.peaks[p] w.s.Rem[p]
  rw[cond_true,BA hpk',Option.bind_some,Option.bind_some,BA hrm',Option.bind_some,Option.bind_some,hy,Option.bind_some,Option.bind_some,Option.bind_some,hx,Option.bind_some,Option.bind_some,hxp.total hN' (by omega),Option.bind_some]
  cases decide (y.1≤x.sum)
  ·obtain⟨r,l',hr,r1,r2,r3,r5,r4⟩:=Qi hN hH hW hp hpl (rem:=upd w.s.Rem (p:Int) 0) y (by omega) i.ox hn
   exact⟨r,l++l',hr,by rw[r1];exact hur,i.trans r2,by rw[List.length_append];omega,hf l' r5,r4⟩
  ·rw[cond_true,BA (show p<(upd w.s.Rem (p:Int) 0).length by omega),Option.bind_some,Option.bind_some]
   obtain⟨r,l',hr,r1,r2,r3,r5,r4⟩:=Qi hN hH hW hp hpl (rem:=upd (upd w.s.Rem (p:Int) 0) (p:Int) y.2) y (by omega) i.ox hn
   exact⟨r,l++l',hr,by rw[r1,Kt];exact hur,i.trans r2,by rw[List.length_append];omega,hf l' r5,r4⟩
structure Qw (N:Nat) (b:AW) (s:Ak) (ts:List Fj) (o1:List (List Int)) (r:Ak×List Ae×List Int) (ns:List Int) (o3:List (List Int)) (l:List Ae):Prop where
 nl:ns.length=b.Places.length
 mlen:r.2.1.length≤100000
 n0:∀n∈ns,0≤n
 at3:∀(p:Nat) x n,o1[p]? =some x→ns[p]? =some n→o3[p]? =some (E0 (E0 x (v1 b.Owners.length n)) (KP b.Owners.length s.Hour s.Queue p))
 ox3:HM b.Places.length b.Owners.length o3
 os3:Dy o3+Ex (JY s.Hour s.Queue)≤1125899906842624
 pk:r.2.2=o3.map List.sum
 lv:iJ b s.Hour N b.Owners.length b.Places.length o3 s.Out (TN s.Hour b.Owners.length 0 ns) r.1.Own r.1.Out r.2.1 (l.filterMap (Kc b s.Hour)) l
 que:r.1.Queue=JY s.Hour s.Queue++l.filterMap (Kc b s.Hour)
 hour:r.1.Hour=BC (s.Hour+1)
 inn:r.1.In=E0 s.In (v1 b.Owners.length ns.sum)
 tk:∀p,p<b.Places.length→∀x,o3[p]? =some x→l.filter (Vc p)=Qh s.Hour p (KY N b p ts) x
 cap:∀(p:Nat) (hp:p<b.Places.length) x,r.1.Own[p]? =some x→x.sum≤(b.Places[p]).Cap
structure iW (N:Nat) (b:AW) (H:Int) (ts:List Fj) (o3:List (List Int)) (k:Nat) (o:List (List Int)) (l:List Ae):Prop where
 tk:∀p,p<k→∀x,o3[p]? =some x→l.filter (Vc p)=Qh H p (KY N b p ts) x
 hi:∀p,k≤p→l.filter (Vc p)=[]∧o[p]? =o3[p]?
 cap:∀(p:Nat) (hp:p<b.Places.length),p<k→∀x,o[p]? =some x→x.sum≤(b.Places[p]).Cap
theorem iW.next {N:Nat}{b:AW}{H:Int}{ts:List Fj}{o3:List (List Int)}{k W:Nat}{o o':List (List Int)}{out out':List Int}{ms ms':List Ae}{sn sn':List Ao}{l l':List Ae}(h:iW N b H ts o3 k o l) (hk:k<b.Places.length) (q:R5 b H N W k o out ms sn o' out' ms' sn' l') (h5:∀x,o[k]? =some x→l'.filter (Vc k)=Qh H k (KY N b k ts) x) (h4:∀x,o'[k]? =some x→x.sum≤(b.Places[k]).Cap):iW N b H ts o3 (k+1) o' (l++l'):=by
 have fr:∀m∈l',m.From=(k:Int):=λm hm=>(q.mv m hm).fr
 refine⟨λp hp x hx=>?_,λp hp=>⟨?_,?_⟩,λp hp hpk x hx=>?_⟩
 ·rw[List.filter_append]
  by_cases e:p=k
  ·subst e
   obtain⟨u1,u2⟩:=h.hi p (Nat.le_refl _)
   rw[u1,List.nil_append]
   exact h5 x (u2.trans hx)
  ·rw[QZ (λe'=>e e'.symm) fr,List.append_nil]
   exact h.tk p (by omega) x hx
 ·rw[List.filter_append,(h.hi p (by omega)).1,QZ (by omega) fr];rfl
 ·rw[q.own,RO fr (by omega)];exact(h.hi p (by omega)).2
 ·by_cases e:p=k
  ·subst e;exact h4 x hx
  ·rw[q.own,RO fr (λe'=>e e'.symm)] at hx
   exact h.cap p hp (by omega) x hx
end Go.Proofs.YtblcgjadhemlbaaGreat
namespace Go.Proofs.YtblcgjadhemlbaaGreat
open Go.RowKit
set_option linter.unusedVariables false
set_option linter.unusedSimpArgs false
theorem Mi {N:Nat}(hN:1000000<N) {p:List Int}(hl:p.length≤1000) (h0:∀x∈p,0≤x) (hs:p.sum≤2305843009213693952):Be N p=some p.sum:=by
 unfold Be
 obtain⟨s,⟨i1,i2⟩,e⟩:=Da p.length (λn i s=>DW N p (FH N) n s i) (FH N) (λk s=>s=(p.take k).sum∧0≤s) (λn k s hk=>by
  simp only[DW];rw[Ey hk];rfl) (λn k s hi hk=>by
  obtain⟨i1,i2⟩:=hi
  have h1:=G9 h0 (k+1)
  have h3:=h0 _ (List.getElem_mem hk)
  rw[H2 hk] at h1
  simp only[DW]
  rw[Ea hk,cond_true,BA hk,Option.bind_some,DB (n:=s+p[k]) (by omega) (by omega),BE (by omega)]
  exact⟨_,⟨by rw[H2 hk,i1],by omega⟩,rfl⟩) N 0 0 ⟨rfl,Int.le_refl _⟩ (by omega) (Nat.zero_le _)
 rw[List.take_length] at i1
 subst i1
 exact e
theorem OJ.at_:∀{l:List Ae}{o:List (List Int)},OJ l o→∀(j:Nat) (h:j<l.length),∃x,(Ox o (l.take j))[(l[j]).From.toNat]? =some x∧TO (l[j]).Part x
 |m::l,o,h,0,_=>h.1
 |m::l,o,h,j+1,hj=>OJ.at_ (l:=l) h.2 j (by simpa using hj)
theorem UI {H:Int}{W:Nat}:∀{l:List Int}{i:Nat}{m:Ae},m∈TN H W i l→∃(k:Nat) (n:Int),n∈l∧0<n∧m=⟨H, -1,(k:Int), -4,v1 W n⟩
 |[],_,m,h=>by cases h
 |a::l,i,m,h=>by
  rw[TN] at h
  rcases List.mem_append.1 h with h|h
  ·split at h
   ·rename_i h0
    exact⟨i,a,List.mem_cons_self ..,h0,List.mem_singleton.1 h⟩
   ·cases h
  ·obtain⟨k,n,h1,h2,h3⟩:=UI h
   exact⟨k,n,List.mem_cons_of_mem _ h1,h2,h3⟩
theorem PM {P W:Nat}{t:Int}{q:List Ao}(hq:QX P W q) {p:Nat}:∀k,k≤q.length→(KP W t (q.take k) p).length=W∧∀x∈KP W t (q.take k) p,0≤x
 |0,_=>⟨by simp [KP],λx hx=>(PX.zero W).nn x hx⟩
 |k+1,hk=>by
  obtain⟨h1,h2⟩:=PM hq k (by omega)
  rw[LV (by omega)]
  split
  ·have h3:=(hq _ (List.getElem_mem (show k<q.length by omega))).1
   exact⟨Js h1 h3.len,NU h2 h3.nn⟩
  ·exact⟨h1,h2⟩
end Go.Proofs.YtblcgjadhemlbaaGreat
namespace Go.Proofs.YtblcgjadhemlbaaGreat
open Go.RowKit
set_option linter.unusedVariables false
set_option linter.unusedSimpArgs false
def NK (o:Nat) (ms:List Ae):Int:=(ms.map λm=>m.Part.getD o 0).sum
theorem WK {W i o:Nat}{c:Int}(hi:i<W):((List.replicate W (0:Int)).set i c).getD o 0=if i=o then c else 0:=by
 rw[List.getD_eq_getElem?_getD,List.getElem?_set]
 by_cases e:i=o
 ·subst e;simp [hi]
 ·rw[if_neg e,if_neg e,List.getElem?_replicate]
  by_cases h:o<W<;>simp [h]
theorem U8 {W o:Nat}{x y:List Int}(hx:x.length=W) (hy:y.length=W) (ho:o<W):(Ho x y).getD o 0=x.getD o 0-y.getD o 0:=by
 have h1:o<x.length:=by omega
 have h2:o<y.length:=by omega
 unfold Ho
 simp [List.getD_eq_getElem?_getD,List.getElem?_zipWith,h1,h2]
end Go.Proofs.YtblcgjadhemlbaaGreat
namespace Go.Proofs.YtblcgjadhemlbaaGreat
open Go.RowKit
set_option linter.unusedVariables false
set_option linter.unusedSimpArgs false
theorem Od {α}(f:α→Bool) {l:List α}{k:Nat}(hk:k<l.length):(l.take (k+1)).filter f=(l.take k).filter f++if f l[k] then [l[k]] else []:=by
 rw[List.take_succ_eq_append_getElem hk,List.filter_append]
 congr 1
 cases h:f l[k]<;>simp [h]
theorem Mm {l:List Int}{o:Nat}(h:o<l.length):ix l (o:Int)=some (l.getD o 0):=by
 rw[BA h];simp [List.getD_eq_getElem?_getD,h]
theorem Ja {W o:Nat}{x y:List Int}(hx:x.length=W) (hy:y.length=W) (ho:o<W):(E0 x y).getD o 0=x.getD o 0+y.getD o 0:=by
 have h1:o<x.length:=by omega
 have h2:o<y.length:=by omega
 unfold E0
 simp [List.getD_eq_getElem?_getD,List.getElem?_zipWith,h1,h2]
theorem Nl {x:List Int}(h:∀y∈x,0≤y) (o:Nat):0≤x.getD o 0:=by
 rw[List.getD_eq_getElem?_getD]
 cases e:x[o]? with
 |none=>exact Int.le_refl 0
 |some y=>exact h y (List.mem_of_getElem? e)
theorem Nm {x:List Int}(h:∀y∈x,0≤y) (o:Nat):x.getD o 0≤x.sum:=by
 rw[List.getD_eq_getElem?_getD]
 cases e:x[o]? with
 |none=>exact Hr h
 |some y=>exact Gk h y (List.mem_of_getElem? e)
end Go.Proofs.YtblcgjadhemlbaaGreat
namespace Go.Proofs.YtblcgjadhemlbaaGreat
open Go.RowKit
set_option linter.unusedVariables false
set_option linter.unusedSimpArgs false
theorem aF {N:Nat}(hN:1000000<N) {b:AW}{s:Ak}{in_:Ct}(h4:in_.Swaps=[]) (gs:List Au):DQ N (⟨b,in_,({ s with Gates:=gs}:Ak),([]:List Ae),(List.replicate ((b.Places.length:Int)).toNat (0:Int)),([]:List Ao)⟩:Aj)=some s.Own:=by
 obtain⟨n,rfl⟩:∃n,N=n+1:=⟨N-1,by omega⟩
 unfold DQ
 simp only[Bs,h4]
 rfl
theorem Qw.rain {N:Nat}{b:AW}(hb:G1 b) {s:Ak}{ts:List Fj}{o1:List (List Int)}(ho1:HM b.Places.length b.Owners.length o1) (hq:QX b.Places.length b.Owners.length s.Queue) {r:Ak×List Ae×List Int}{ns:List Int}{o3:List (List Int)}{l:List Ae}(h:Qw N b s ts o1 r ns o3 l):(∀n∈ns,0≤n∧n≤1125899906842624)∧∀m∈r.2.1,PX b.Owners.length m.Part∧0<m.Part.sum:=by
 have hW1:=hb.own1
 have hn2:∀n∈ns,0≤n∧n≤1125899906842624:=λn hn=>by
  refine⟨h.n0 n hn,?_⟩
  obtain⟨i,hi⟩:=List.mem_iff_getElem?.1 hn
  have hil:=(List.getElem?_eq_some_iff.1 hi).1
  obtain⟨x,_,hx,hxp⟩:=ho1.ix (k:=i) (by rw[←h.nl];exact hil)
  have h3:=h.at3 i x n hx hi
  have h4:=(h.ox3.all _ (List.mem_of_getElem? h3)).mv
  have hal:=PM hq (t:=s.Hour) (p:=i) s.Queue.length (Nat.le_refl _)
  rw[List.take_length] at hal
  rw[H1 (by rw[Js hxp.len (KW _ _),hal.1]),H1 (by rw[hxp.len,KW]),NF hW1] at h4
  have:=hxp.sum0
  have:=Hr hal.2
  omega
 refine⟨hn2,λm hm=>?_⟩
 rw[h.lv.ms_] at hm
 rcases List.mem_append.1 hm with hm|hm
 ·obtain⟨k,n,h1,h2,h3⟩:=UI hm
  rw[h3]
  exact⟨Vn hW1 (by omega) (hn2 n h1).2,by show 0<(v1 _ n).sum;rw[NF hW1];exact h2⟩
 ·obtain⟨p,_,hp⟩:=h.lv.mv m hm;exact⟨hp.px,hp.pos⟩
end Go.Proofs.YtblcgjadhemlbaaGreat
namespace Go.Proofs.YtblcgjadhemlbaaGreat
open Go.RowKit
set_option linter.unusedVariables false
set_option linter.unusedSimpArgs false
theorem aM (N:Nat) (p:List Int) (h0:∀x∈p,0≤x) (i:Int):∃v,I6 N p i=some v∧(0<v→∃j:Nat,i=(j:Int)∧p[j]? =some v):=by
 unfold I6
 cases hb:(decide (i<0)||decide ((p.length:Int)≤i)) with
 |true=>exact⟨0,rfl,λh=>absurd h (by decide)⟩
 |false=>
  simp only[Bool.or_eq_false_iff,decide_eq_false_iff_not] at hb
  obtain⟨j,hj,hjl⟩:=ZR (l:=p) (i:=i) (by omega) (by omega)
  have:=h0 _ (List.getElem_mem hjl)
  rw[cond_false,hj,BA hjl,Option.bind_some,Option.bind_some,Option.bind_some,decide_eq_false (show ¬p[j]<0 by omega)]
  exact⟨p[j],rfl,λ_=>⟨j,rfl,List.getElem?_eq_getElem hjl⟩⟩
theorem YP {N W:Nat}(hN:1000000<N) (hW:W≤1000) {p:List Int}(hp:PX W p) (fr to n:Int):∃r,J0 N p fr to n=some r∧PX W r∧r.sum=p.sum:=by
 have hpl:=hp.len
 unfold J0
 obtain⟨v,hv,hv2⟩:=aM N p hp.nn fr
 rw[I5 (by omega) _ (by decide),hv,Option.bind_some,Rq]
 cases hc:(((decide (0<min n v)&&decide (0≤to))&&decide (to<(p.length:Int)))&&decide (fr≠to))
 ·exact⟨p,rfl,hp,rfl⟩
 ·simp only[Bool.and_eq_true,decide_eq_true_eq] at hc
  obtain⟨⟨⟨c1,c2⟩,c3⟩,c4⟩:=hc
  obtain⟨j,hj,hjv⟩:=hv2 (by omega)
  obtain⟨k,hk,hkl⟩:=ZR (l:=p) (i:=to) c2 c3
  have hjl:=(List.getElem?_eq_some_iff.1 hjv).1
  have hjx:=(List.getElem?_eq_some_iff.1 hjv).2
  have hjk:j≠k:=by omega
  have hvm:=hp.mem (List.mem_of_getElem? hjv)
  have hkm:=hp.mem (List.getElem_mem hkl)
  have hkl2:k<(upd p (j:Int) (v-min n v)).length:=by rw[Kt];exact hkl
  have hk2:(upd p (j:Int) (v-min n v))[k]=p[k]:=by
   have:(upd p (j:Int) (v-min n v))[k]? =p[k]? :=Gy hjk _
   rw[List.getElem?_eq_getElem hkl2,List.getElem?_eq_getElem hkl] at this
   exact Option.some.inj this
  rw[cond_true,hj,BA hjl,hjx]
  simp only[Option.bind_some]
  rw[DB (n:=v-min n v) (by omega) (by omega),hk,BA hkl2,hk2]
  simp only[Option.bind_some]
  rw[Rv N (by omega) (by omega) (by omega) (by omega),Option.bind_some]
  have hs:(upd (upd p (j:Int) (v-min n v)) (k:Int) (p[k]+min n v)).sum=p.sum:=by
   have hk3:(p.set j (v-min n v))[k]'(by simpa using hkl)=p[k]:=List.getElem_set_ne hjk _
   unfold upd
   rw[Int.toNat_natCast,Int.toNat_natCast,La (by simpa using hkl),La hjl,hk3,hjx]
   omega
  refine⟨_,rfl,⟨by rw[Kt,Kt];exact hpl,λx hx=>?_,by rw[hs];exact hp.mv⟩,hs⟩
  rcases List.mem_or_eq_of_mem_set hx with hx|rfl
  ·rcases List.mem_or_eq_of_mem_set hx with hx|rfl
   ·exact hp.nn x hx
   ·omega
  ·omega
theorem X3 {N:Nat}(hN:1000000<N) {w:Aj}{W:Nat}(hW:W≤1000) (hs:w.in_.Swaps.length≤1000) (ho:HM w.b.Places.length W w.s.Own):∃o,DQ N w=some o∧HM w.b.Places.length W o∧o.map List.sum=w.s.Own.map List.sum:=by
 unfold DQ
 obtain⟨o,⟨i1,i2⟩,e⟩:=Da w.in_.Swaps.length (λn i l=>Bs N w n i l) (λl=>some l) (λ_ l=>HM w.b.Places.length W l∧l.map List.sum=w.s.Own.map List.sum) (λn k l hk=>by
  simp only[Bs];rw[Ey hk];rfl) (λn k l hi hk=>by
  obtain⟨hi,hso⟩:=hi
  simp only[Bs,E4]
  rw[Ea hk,cond_true,BA hk,BE (by omega)]
  simp only[Option.bind_some,LM,Fi,Pw]
  generalize w.in_.Swaps[k]=x
  cases hb:(((decide (0≤x.Place)&&decide (x.Place<(w.b.Places.length:Int)))&&(decide (0≤x.From)&&decide (x.From<(w.b.Owners.length:Int))))&&(decide (0≤x.To)&&decide (x.To<(w.b.Owners.length:Int))))
  ·exact⟨l,⟨hi,hso⟩,rfl⟩
  ·simp only[Bool.and_eq_true,decide_eq_true_eq] at hb
   obtain⟨j,hj,hjl⟩:=ZR (l:=l) hb.1.1.1 (by rw[hi.len];exact hb.1.1.2)
   obtain⟨y,hy,hyk,hyp⟩:=hi.ix (k:=j) (by rw[←hi.len];exact hjl)
   obtain⟨z,hz,hzp,hzs⟩:=YP hN hW hyp x.From x.To x.Litres
   rw[cond_true,hj]
   simp only[hy,Option.bind_some]
   rw[hz,Option.bind_some]
   exact⟨_,⟨hi.upd _ hzp,by rw[←hso];exact(show(upd l (j:Int) z).map List.sum=upd (l.map List.sum) (j:Int) y.sum by unfold upd;rw[List.map_set,hzs]).trans (SV (by rw[List.getElem?_map,hyk];rfl))⟩,rfl⟩) N 0 w.s.Own ⟨ho,rfl⟩ (by omega) (Nat.zero_le _)
 exact⟨o,e,i1,i2⟩
theorem TU (N:Nat) {w w':Aj}(hb:w.b=w'.b) (hi:w.in_=w'.in_) (n:Nat):∀(i:Int) (l:List (List Int)),Bs N w n i l=Bs N w' n i l:=by
 induction n with
 |zero=>intro i l;rfl
 |succ n ih=>intro i l;simp only[Bs,E4,hb,hi,ih]
theorem V5 {N:Nat}(hN:1000000<N) {b:AW}{s:Ak}{in_:Ct}{W:Nat}(hW:W≤1000) (hs:in_.Swaps.length≤1000) (ho:HM b.Places.length W s.Own):∃o,(∀gs:List Au,DQ N (⟨b,in_,({ s with Gates:=gs}:Ak),([]:List Ae),(List.replicate ((b.Places.length:Int)).toNat (0:Int)),([]:List Ao)⟩:Aj)=some o)∧HM b.Places.length W o∧Dy o=Dy s.Own∧o.map List.sum=s.Own.map List.sum:=by
 obtain⟨o,e,h1,h2⟩:=X3 hN (w:=(⟨b,in_,s,([]:List Ae),[],([]:List Ao)⟩:Aj)) hW hs ho
 refine⟨o,λgs=>?_,h1,by unfold Dy;rw[h2],h2⟩
 rw[←e]
 exact TU N (w:=(⟨b,in_,({ s with Gates:=gs}:Ak),([]:List Ae),(List.replicate ((b.Places.length:Int)).toNat (0:Int)),([]:List Ao)⟩:Aj)) (w':=(⟨b,in_,s,([]:List Ae),[],([]:List Ao)⟩:Aj)) rfl rfl N 0 s.Own
end Go.Proofs.YtblcgjadhemlbaaGreat
