import Derived.Test.YtibidnaedddfdaaGreatCPureHRight
namespace Go.Proofs.YtibidnaedddfdaaGreat
open Go.RowKit
set_option linter.unusedVariables false
set_option linter.unusedSimpArgs false
theorem SV {α}{l:List α}{i:Int}(h0:0≤i) (h1:i<l.length):∃x,ix l i=some x∧l[i.toNat]? =some x:=by
 obtain⟨k,rfl⟩:∃k:Nat,i=k:=⟨i.toNat,by omega⟩
 have hk:k<l.length:=by omega
 exact⟨_,Al hk,by simp [hk]⟩
theorem Qb {α}(l:List α) (k:Nat) (x:α):upd l (k:Int) x=l.set k x:=by simp [upd]
theorem MB.set {P:Nat}{t:Int}{q:List Az}(k:MB P t q) {r:Nat}(hr:r<q.length) {v:AD}(hv:Ge v) (h0:0<v.Hi):MB P t (q.set r { q[r] with Vol:=v}):=by
 refine⟨VN k.srt hr rfl,λe he=>?_⟩
 rcases List.mem_or_eq_of_mem_set he with h|h
 ·exact k.el e h
 ·rw[h]
  obtain⟨_,_,a,b,c⟩:=k.el _ (List.getElem_mem hr)
  exact⟨hv,h0,a,b,c⟩
theorem TZ {a b:Int}(ha:0≤a) (hb:0≤b):IM (a+b)=min 9223372036854775807 (a+b):=by unfold IM;omega
theorem MB.add {N:Nat}(hN:2000000<N) {P:Nat}{t:Int}{q:List Az}(k:MB P t q) (hl:q.length<1800000) {at_ to:Int}(ha:t≤at_) (hto:0≤to∧to<P) {s:AD}(hs:Ge s):∃q',IR N q at_ to s=some q'∧MB P t q'∧q'.length≤q.length+1:=by
 obtain⟨s1,s2,s3⟩:=hs
 unfold IR
 by_cases hz:s.Hi≤0
 ·rw[decide_eq_true hz,cond_true]
  exact⟨q,rfl,k,Nat.le_succ _⟩
 rw[decide_eq_false hz,cond_false]
 obtain⟨r,e1,h2,h3,h4⟩:=Zm hN q k.srt (by omega) (⟨at_,to,⟨0,0⟩⟩:Az)
 have e1:AW N q (⟨at_,to,⟨0,0⟩⟩:Az) (λx=>DX N x.1 x.2)=_:=e1
 rw[e1]
 simp only[Option.bind_some]
 by_cases hf:∃y,q[r]? =some y∧y.At=at_∧y.To=to
 ·obtain⟨y,hy,hk1,hk2⟩:=hf
  obtain⟨hr,hye⟩:=List.getElem?_eq_some_iff.1 hy
  rw[decide_eq_true ⟨y,hy,hk1,hk2⟩,cond_true,Al hr]
  obtain⟨⟨v1,v2,v3⟩,_,_⟩:=k.el _ (List.getElem_mem hr)
  simp only[Option.bind_some,F5]
  rw[MT N (by omega) (by omega) (by omega) (by omega),Option.bind_some,MT N (by omega) (by omega) (by omega) (by omega)]
  simp only[Option.bind_some,Qs,Qb]
  exact⟨_,rfl,k.set hr ⟨by show 0≤min _ _;omega,by show min _ _≤min _ _;omega,by show min _ _≤_;omega⟩ (by show 0<min _ _;omega),by simp⟩
 ·rw[decide_eq_false hf,cond_false,Qs]
  simp only[Option.bind_some]
  unfold Gw Vh
  rw[if_pos ⟨by omega,by omega,rfl,by unfold room;simp;omega⟩]
  refine⟨_,rfl,?_⟩
  rw[Int.toNat_natCast]
  have none_:∀e∈q,¬(at_=e.At∧to=e.To):=by
   intro e he hh
   obtain⟨i,hi⟩:=List.mem_iff_getElem?.1 he
   rcases Nat.lt_or_ge i r with hlt|hge
   ·have:=h3 i e hlt hi
    rw[hh.1,hh.2] at this
    exact Vd this
   ·rcases Nat.lt_or_ge r i with h5|h5
    ·have hil:=(List.getElem?_eq_some_iff.1 hi).1
     have h6:=List.pairwise_iff_getElem.1 k.srt r i (by omega) hil h5
     rw[(List.getElem?_eq_some_iff.1 hi).2,←hh.1,←hh.2] at h6
     exact h4 r _ (Nat.le_refl _) (List.getElem?_eq_getElem (by omega)) h6
    ·have:i=r:=by omega
     subst this
     exact hf ⟨e,hi,hh.1.symm,hh.2.symm⟩
  refine⟨⟨?_,λe he=>?_⟩,by simp only[List.length_append,List.length_take,List.length_drop,List.length_singleton];omega⟩
  ·have hlt:∀e∈q.take r,OM e.At e.To at_ to:=λe he=>by
    obtain⟨i,hi⟩:=List.mem_iff_getElem?.1 he
    rw[List.getElem?_take] at hi
    split at hi
    ·exact h3 i e (by assumption) hi
    ·cases hi
   have hgt:∀e∈q.drop r,OM at_ to e.At e.To:=λe he=>by
    have hq:=List.mem_of_mem_drop he
    obtain⟨i,hi⟩:=List.mem_iff_getElem?.1 he
    rw[List.getElem?_drop] at hi
    exact Vc (h4 (r+i) e (by omega) hi) λhh=>none_ e hq ⟨hh.1.symm,hh.2.symm⟩
   unfold VF
   rw[List.append_assoc,List.pairwise_append]
   have hs1:=k.srt
   unfold VF at hs1
   rw[←List.take_append_drop r q,List.pairwise_append] at hs1
   refine⟨hs1.1,List.pairwise_cons.2 ⟨λe he=>hgt e he,hs1.2.1⟩,λe he e' he'=>?_⟩
   rcases List.mem_cons.1 he' with rfl|he'
   ·exact hlt e he
   ·exact hs1.2.2 e he e' he'
  ·simp only[List.mem_append,List.mem_singleton] at he
   rcases he with (he|he)|he
   ·exact k.el e (List.mem_of_mem_take he)
   ·rw[he]
    exact⟨⟨by show 0≤min _ _;omega,by show min _ _≤min _ _;omega,by show min _ _≤_;omega⟩,by show 0<min _ _;omega,ha,hto⟩
   ·exact k.el e (List.mem_of_mem_drop he)
theorem QV {N:Nat}(hN:2000000<N) {w:Ac}{q:List Az}(hq:w.h.Queue=q) {t:Int}(ht:w.h.Hour=t) (h0:0≤t∧t≤33554432) {P:Nat}(k:MB P (t+1) q) (hl:q.length<1800000) {to d:Int}(hto:to= -1∨(0≤to∧to<P)) (hd:0≤d∧d≤240) {s:AD}(hs:Ge s):∃q',E0 N w to d s=some q'∧MB P (t+1) q'∧q'.length≤q.length+1:=by
 subst hq
 subst ht
 unfold E0
 by_cases h:to= -1
 ·rw[show decide (to≠ -1)=false by simp [h],cond_false]
  exact⟨_,rfl,k,Nat.le_succ _⟩
 ·rw[show decide (to≠ -1)=true by simp [h],cond_true,B1 (n:=w.h.Hour+1) (by omega) (by omega),B1 (n:=w.h.Hour+1+d) (by omega) (by omega)]
  obtain⟨q',e1,e2,e3⟩:=k.add hN hl (at_:=w.h.Hour+1+d) (by omega) (hto.resolve_left h) hs
  rw[e1]
  exact⟨q',rfl,e2,e3⟩
def IB (b:AJ) (l:List AT):Prop:=l.length=b.Links.length∧∀(k:Nat) a x,b.Links[k]? =some a→l[k]? =some x→Nu a x
theorem IB.set {b:AJ}{l:List AT}(h:IB b l) {k:Nat}{x:AT}(hx:∀a,b.Links[k]? =some a→Nu a x):IB b (l.set k x):=by
 refine⟨by simp [h.1],λi a y ha hy=>?_⟩
 rw[List.getElem?_set] at hy
 split at hy
 ·rename_i e
  subst e
  split at hy
  ·cases hy;exact hx a ha
  ·cases hy
 ·exact h.2 i a y ha hy
theorem PB (N:Nat) {n lo hi:Int}(h:lo≤hi):Ew N n lo hi=some (max lo (min hi n)):=by
 unfold Ew
 by_cases h1:n<lo
 ·rw[decide_eq_true h1,cond_true];congr 1;omega
 ·rw[decide_eq_false h1,cond_false]
  by_cases h2:hi<n
  ·rw[decide_eq_true h2,cond_true];congr 1;omega
  ·rw[decide_eq_false h2,cond_false];congr 1;omega
theorem UU (N:Nat) {l:AQ}{k:AT}(hs:0≤l.Speed∧l.Speed≤l.Positions∧l.Positions≤64) (ht:0≤k.Target∧k.Target≤l.Positions) {p:Int}(hp:0≤p∧p≤l.Positions):Ft N l k p=some (p+max (0-l.Speed) (min l.Speed (k.Target-p))):=by
 unfold Ft Ir
 simp only[cond_false]
 rw[HU N (by omega) (by omega) (by omega) (by omega),Option.bind_some,HU N (by omega) (by omega) (by omega) (by omega),Option.bind_some,PB N (by omega),Option.bind_some,MT N (by omega) (by omega) (by omega) (by omega)]
 rfl
theorem UT {N:Nat}{l:AQ}{s t:Int}(hl:QW N l s t) {k:AT}(hk:Nu l k) (sure:Bool):∃k',HJ N l k sure=some k'∧Nu l k':=by
 have hs:=hl.spd
 have hp:=hk.pos
 have ht:=hk.tgt
 unfold HJ
 cases sure
 ·rw[cond_false,HU N (by omega) (by omega) (by omega) (by omega),Option.bind_some,PB N (by omega),Option.bind_some,MT N (by omega) (by omega) (by omega) (by omega),Option.bind_some,PB N (by omega),Option.bind_some]
  refine⟨_,rfl,⟨?_,?_,?_⟩,ht,hk.opn⟩
  ·show 0≤max 0 _;omega
  ·show max 0 (min l.Positions (k.Pos.Lo-l.Speed))≤max 0 (min l.Positions (k.Pos.Hi+l.Speed));omega
  ·show max 0 (min l.Positions (k.Pos.Hi+l.Speed))≤l.Positions;omega
 ·rw[cond_true,UU N hs ht (by omega),Option.bind_some,UU N hs ht (by omega),Option.bind_some]
  refine⟨_,rfl,⟨?_,?_,?_⟩,ht,hk.opn⟩
  ·show 0≤k.Pos.Lo+max (0-l.Speed) (min l.Speed (k.Target-k.Pos.Lo));omega
  ·show k.Pos.Lo+max (0-l.Speed) (min l.Speed (k.Target-k.Pos.Lo))≤k.Pos.Hi+max (0-l.Speed) (min l.Speed (k.Target-k.Pos.Hi));omega
  ·show k.Pos.Hi+max (0-l.Speed) (min l.Speed (k.Target-k.Pos.Hi))≤l.Positions;omega
theorem X4 (N:Nat) {l:AQ}(hP:0≤l.Positions) {t:Int}(ht:0≤t∧t≤l.Positions) (g:Int):∃y,IS N l (⟨0,t,false,false⟩:Db) g=some y∧0≤y.Target∧y.Target≤l.Positions:=by
 unfold IS Gs
 by_cases h:l.Positions=0
 ·rw[show decide (l.Positions≠0)=false by simp [h],cond_false]
  exact⟨_,rfl,ht⟩
 ·rw[show decide (l.Positions≠0)=true by simp [h],cond_true,PB N hP,Option.bind_some]
  exact⟨_,rfl,by show 0≤max 0 (min l.Positions g);omega,by show max 0 (min l.Positions g)≤l.Positions;omega⟩
theorem MN (N:Nat) (i:Int) (L:Nat):Ep N i (L:Int)=some (decide (0≤i)&&decide (i<(L:Int))):=rfl
theorem Tl {N:Nat}(hN:18446744073709551616<N) {w:Ac}{b:AJ}(hw:w.b=b) (hb:K7 N b) {in_:BJ}(hf:in_.Faults.length≤1800000) (hc:in_.Cmds.length≤1800000) (sure:List Bool) (hk:IB b w.h.Links):∃l,FR N w in_ sure=some l∧IB b l:=by
 subst hw
 have hli:=hb.head.li
 unfold FR
 obtain⟨l1,i1,e1⟩:=F4 in_.Faults.length (λn i l=>A5 N w in_ (BZ N w in_ sure) n i l) (BZ N w in_ sure) (λ_ l=>IB w.b l) (λn k l hk=>by
  simp only[A5];rw[EA hk];rfl) (λn k l hi hk=>by
  simp only[A5]
  rw[D9 hk,cond_true,Al hk,Option.bind_some,MN,Option.bind_some]
  have nxt:∀l,Cg N (k:Int) (A5 N w in_ (BZ N w in_ sure) n) l=A5 N w in_ (BZ N w in_ sure) n ((k+1:Nat):Int) l:=λl=>by
   unfold Cg
   rw[Ae (by omega)]
  simp only[nxt]
  generalize in_.Faults[k]=f
  by_cases hix:0≤f.Link∧f.Link<w.b.Links.length
  ·obtain⟨a,ea,ea2⟩:=SV (l:=w.b.Links) hix.1 hix.2
   obtain⟨x,ex,ex2⟩:=SV (l:=l) (i:=f.Link) hix.1 (by rw[hi.1];exact hix.2)
   rw[decide_eq_true hix.1,decide_eq_true hix.2]
   simp only[Bool.and_self,Bool.not_true,cond_false,ea,Option.bind_some]
   by_cases h5:a.Kind=5
   ·rw[show decide (a.Kind≠5)=false by simp [h5],cond_false]
    have hup:∀o:AD,(o=⟨1,1⟩∨o=⟨0,0⟩)→IB w.b (upd l f.Link ({ x with Open:=o}:AT)):=λo ho=>by
     unfold upd
     refine hi.set λa2 ha2=>?_
     have:a2=a:=by rw[ea2] at ha2;exact(Option.some.inj ha2).symm
     subst this
     have hK:=hi.2 _ _ _ ea2 ex2
     refine⟨hK.pos,hK.tgt,?_⟩
     rcases ho with rfl|rfl
     ·exact .inr ⟨.inl h5,.inl rfl⟩
     ·exact .inl rfl
    by_cases h2:f.Kind=2
    ·rw[decide_eq_true h2,cond_true]
     simp only[Dk,ex,Option.bind_some]
     exact⟨_,hup _ (.inl rfl),rfl⟩
    ·rw[decide_eq_false h2,cond_false]
     by_cases h3:f.Kind=3
     ·rw[decide_eq_true h3,cond_true]
      simp only[Dk,ex,Option.bind_some]
      exact⟨_,hup _ (.inr rfl),rfl⟩
     ·rw[decide_eq_false h3,cond_false]
      exact⟨_,hi,rfl⟩
   ·rw[show decide (a.Kind≠5)=true by simp [h5],cond_true]
    exact⟨_,hi,rfl⟩
  ·rw[show (decide (0≤f.Link)&&decide (f.Link<(w.b.Links.length:Int)))=false by
    rw[Bool.and_eq_false_iff]
    simp only[decide_eq_false_iff_not]
    omega]
   exact⟨_,hi,rfl⟩) N 0 w.h.Links hk (by omega) (Nat.zero_le _)
 rw[show A5 N w in_ (BZ N w in_ sure) N 0 w.h.Links=BZ N w in_ sure l1 from e1]
 unfold BZ
 obtain⟨l2,i2,e2⟩:=F4 in_.Cmds.length (λn i l=>BK N w in_ (BY N w sure) n i l) (BY N w sure) (λ_ l=>IB w.b l) (λn k l hk=>by
  simp only[BK];rw[EA hk];rfl) (λn k l hi hk=>by
  simp only[BK]
  rw[D9 hk,cond_true,Al hk,Option.bind_some,MN,Option.bind_some]
  have nxt:∀l,D0 N (k:Int) (BK N w in_ (BY N w sure) n) l=BK N w in_ (BY N w sure) n ((k+1:Nat):Int) l:=λl=>by
   unfold D0
   rw[Ae (by omega)]
  simp only[nxt]
  generalize in_.Cmds[k]=f
  by_cases hix:0≤f.Link∧f.Link<w.b.Links.length
  ·obtain⟨a,ea,ea2⟩:=SV (l:=w.b.Links) hix.1 hix.2
   obtain⟨x,ex,ex2⟩:=SV (l:=l) (i:=f.Link) hix.1 (by rw[hi.1];exact hix.2)
   have hK:=hi.2 _ _ _ ea2 ex2
   have ham:a∈w.b.Links:=List.mem_of_getElem? ea2
   obtain⟨y,ey,y1⟩:=X4 N (l:=a) (by have:=(hb.lk a ham).spd;omega) hK.tgt f.Target
   rw[decide_eq_true hix.1,decide_eq_true hix.2]
   simp only[Bool.and_self,cond_true,ea,ex,ey,Option.bind_some]
   refine⟨_,?_,rfl⟩
   unfold upd
   refine hi.set λa2 ha2=>?_
   have:a2=a:=by rw[ea2] at ha2;exact(Option.some.inj ha2).symm
   subst this
   exact⟨hK.pos,y1,hK.opn⟩
  ·rw[show (decide (0≤f.Link)&&decide (f.Link<(w.b.Links.length:Int)))=false by
    rw[Bool.and_eq_false_iff]
    simp only[decide_eq_false_iff_not]
    omega]
   exact⟨_,hi,rfl⟩) N 0 l1 i1 (by omega) (Nat.zero_le _)
 rw[show BK N w in_ (BY N w sure) N 0 l1=BY N w sure l2 from e2]
 unfold BY
 obtain⟨l3,i3,e3⟩:=F4 w.b.Links.length (λn i l=>Cf N w sure n i l) some (λ_ l=>IB w.b l) (λn k l hk=>by
  simp only[Cf];rw[EA hk];rfl) (λn k l hi hk=>by
  have hk2:k<l.length:=by rw[hi.1];exact hk
  simp only[Cf]
  rw[D9 hk,cond_true,Al hk,Al hk2]
  simp only[Option.bind_some,Ae (show k<4611686018427387904 by omega)]
  have hK:=hi.2 k _ _ (List.getElem?_eq_getElem hk) (List.getElem?_eq_getElem hk2)
  have hb257:∃c,cond (decide ((k:Int)<(sure.length:Int))) (Option.bind (ix sure (k:Int)) λx260=>some x260) (some false)=some c:=by
   by_cases h:k<sure.length
   ·rw[D9 h,cond_true,Al h];exact⟨_,rfl⟩
   ·rw[EA (by omega)];exact⟨_,rfl⟩
  obtain⟨c,ec⟩:=hb257
  obtain⟨y,ey,hy⟩:=UT (hb.lk _ (List.getElem_mem hk)) hK c
  rw[ec]
  simp only[Option.bind_some,ey,Qb]
  exact⟨_,hi.set λa2 ha2=>by rw[List.getElem?_eq_getElem hk] at ha2;cases ha2;exact hy,rfl⟩) N 0 l2 i2 (by omega) (Nat.zero_le _)
 exact⟨l3,e3,i3⟩
end Go.Proofs.YtibidnaedddfdaaGreat
