import Derived.Test.YtibidnaedddfdaaGreatAPureAdd
namespace Go.Proofs.YtibidnaedddfdaaGreat
open Go.RowKit
set_option linter.unusedVariables false
set_option linter.unusedSimpArgs false
abbrev QD (n:Int):AF:=⟨n,n⟩
def Us (b:Bool):Int:=cond b 1 0
theorem T5 (N:Nat) (b:Bool):Is N b=some (Us b):=by cases b<;>rfl
abbrev Xj (g:BM):AT:=⟨QD g.Pos,g.Target,QD (Us g.Open)⟩
abbrev CR (s:AV) (q:List Ay):Aq:=⟨s.Hour,s.Own.map (λp=>QD p.sum),q,s.Gates.map Xj⟩
theorem La {α β}{f:α→β}{l:List α}{k:Nat}(h:k<l.length):(l.take (k+1)).map f=(l.take k).map f++[f l[k]]:=by
 rw[List.take_succ_eq_append_getElem h,List.map_append];rfl
theorem Sd {n by_:Nat}(h:n*by_≤140737488355328) {α}(x:Option α):chk (room n by_) x=x:=by
 unfold chk room;rw[decide_eq_true h];rfl
theorem NH {β:Type}(L:Nat) (f:Nat→Int→Option β) (kj:Option β) (hstop:∀n (k:Nat),L≤k→f (n+1) (k:Int)=kj) (hstep:∀n (k:Nat),k<L→f (n+1) (k:Int)=f n ((k+1:Nat):Int)):
  ∀n (k:Nat),L<n+k→k≤L→f n (k:Int)=kj
 |0,k,h,hk=>by omega
 |n+1,k,h,hk=>by
  rcases Nat.lt_or_ge k L with hl|hl
  ·rw[hstep n k hl];exact NH L f kj hstop hstep n (k+1) (by omega) (by omega)
  ·exact hstop n k hl
theorem EK.nn {b:AJ}{s:AV}(h:EK b s):∀x∈s.Queue,0≤x.Part.sum:=λx hx=>Int.le_of_lt (h.queue x hx).pos
theorem EK.ownle {b:AJ}{s:AV}(h:EK b s):0≤(Vt s).sum∧0≤(LP s.Queue).sum:=⟨LA λp hp=>(h.pools p hp).1.nn,LA h.nn⟩
theorem Xd {N:Nat}(hN:2000000<N) {b:AJ}(hb:FE b) {s:AV}(h:EK b s) (hq:s.Queue.length≤500):∃q,H1 N b s=some (CR s q)∧QI s.Queue q:=by
 have hpl:=hb.pl
 have hli:=hb.li
 have hlo:=h.own
 have hlg:=h.gat
 unfold H1
 obtain⟨x1,i1,h1⟩:=HE s.Own.length (λn i x=>Ev N s (Ex N s) n i x) (Ex N s) (λk x=>x=(s.Own.take k).map λp=>QD p.sum) (λn k x hk=>by
  simp only[Ev];rw[EO hk];rfl) (λn k x hi hk=>by
  refine⟨_,rfl,?_⟩
  subst hi
  obtain⟨p1,p2⟩:=h.pools _ (List.getElem_mem hk)
  simp only[Ev]
  rw[EN hk,cond_true,A9 hk,Az (by omega)]
  simp only[Option.bind_some]
  rw[Hc p1 (by omega) (by omega)]
  simp only[Option.bind_some,Cg]
  rw[Sd (by simp only[List.length_map,List.length_take,List.length_singleton];omega),La hk]) N 0 [] (by simp) (by omega) (Nat.zero_le _)
 have h1:Ev N s (Ex N s) N 0 []=Ex N s x1:=h1
 rw[h1]
 rw[List.take_length] at i1
 subst i1
 unfold Ex
 obtain⟨x2,i2,h2⟩:=HE s.Queue.length (λn i x=>Eu N s (Ew N s (s.Own.map λp=>QD p.sum)) n i x) (Ew N s (s.Own.map λp=>QD p.sum)) (λk x=>QI (s.Queue.take k) x) (λn k x hk=>by
  simp only[Eu];rw[EO hk];rfl) (λn k x hi hk=>by
  have hm:=List.getElem_mem hk
  have hL:=h.queue _ hm
  have h9:=h.nn
  have hsum:(LP (s.Queue.take k)).sum+(s.Queue[k]).Part.sum≤MV:=by
   have e:=Mk (f:=λz:E0=>z.Part.sum) hk
   have e2:((s.Queue.take (k+1)).map λz:E0=>z.Part.sum).sum≤(LP s.Queue).sum:=by
    rw[List.map_take]
    exact(IA (λy hy=>by obtain⟨z,hz,rfl⟩:=List.mem_map.1 hy;exact h9 z hz) _).2
   have:=h.tot
   have:=h.ownle.1
   simp only[LP] at*
   omega
  obtain⟨q',e1,e2⟩:=hi.add hN (by simp only[List.length_take];omega) hL.pos (λy hy=>h9 y (List.mem_of_mem_take hy)) hsum
  refine⟨q',by rw[List.take_succ_eq_append_getElem hk];exact e2,?_⟩
  simp only[Eu]
  have hplen:=hL.plen
  rw[EN hk,cond_true,A9 hk,Az (by omega)]
  simp only[Option.bind_some]
  rw[Hc hL.part (by omega) (by omega)]
  simp only[Option.bind_some,Cg]
  rw[e1]
  rfl) N 0 [] QI.nil (by omega) (Nat.zero_le _)
 have h2:Eu N s (Ew N s (s.Own.map λp=>QD p.sum)) N 0 []=Ew N s (s.Own.map λp=>QD p.sum) x2:=h2
 rw[h2]
 rw[List.take_length] at i2
 unfold Ew
 obtain⟨x3,i3,h3⟩:=HE s.Gates.length (λn i x=>Et N s (Fd N s (s.Own.map λp=>QD p.sum) x2) n i x) (Fd N s (s.Own.map λp=>QD p.sum) x2) (λk x=>x=(s.Gates.take k).map Xj) (λn k x hk=>by
  simp only[Et];rw[EO hk];rfl) (λn k x hi hk=>by
  refine⟨_,rfl,?_⟩
  subst hi
  simp only[Et]
  rw[EN hk,cond_true,A9 hk,Az (by omega)]
  simp only[Option.bind_some,Cg,T5]
  rw[Sd (by simp only[List.length_map,List.length_take,List.length_singleton];omega),La hk]) N 0 [] (by simp) (by omega) (Nat.zero_le _)
 have h3:Et N s (Fd N s (s.Own.map λp=>QD p.sum) x2) N 0 []=Fd N s (s.Own.map λp=>QD p.sum) x2 x3:=h3
 rw[h3]
 rw[List.take_length] at i3
 subst i3
 exact⟨x2,rfl,i2⟩
theorem Pz (a b:AF):MX a.v b.v=(decide (a.Lo=b.Lo)&&decide (a.Hi=b.Hi)):=by simp [MX,Ry]
theorem Ma (N:Nat) (a b:AF):Fi N a b=some (decide (b.Lo≤a.Lo)&&decide (a.Hi≤b.Hi)):=by
 unfold Fi Ge
 simp only[Option.bind_some,Pz]
 congr 1
 rw[Bool.eq_iff_iff]
 simp only[Bool.and_eq_true,decide_eq_true_eq]
 omega
theorem QO {N:Nat}(hN:2000000<N) {b:AJ}(hb:FE b) {s:AV}(h:EK b s) (hq:s.Queue.length≤500) {q:List Ay}(k:QI s.Queue q):Gy N b (CR s q)=some true:=by
 have hpl:=hb.pl
 have hli:=hb.li
 have hlo:=h.own
 have hlg:=h.gat
 have hql:=k.len
 have hho:=h.hour
 have htot:=h.tot
 have hown:=h.ownle
 unfold MV at htot
 unfold Gy
 rw[show ((((decide ((CR s q).Hour<0))||(decide (16777216<(CR s q).Hour)))||(decide ((((CR s q).Vol.length:Nat):Int)≠((b.Places.length:Nat):Int))))||(decide ((((CR s q).Links.length:Nat):Int)≠((b.Links.length:Nat):Int))))=false by
  simp only[List.length_map,Bool.or_eq_false_iff,decide_eq_false_iff_not];omega,cond_false]
 rw[show DN N (CR s q) (D6 N b (CR s q)) N 0=D6 N b (CR s q) from NH s.Own.length (λn i=>DN N (CR s q) (D6 N b (CR s q)) n i) _ (λn i hi=>by
  simp only[DN,List.length_map];rw[EO hi];rfl) (λn i hi=>by
  have hp:=(h.pools _ (List.getElem_mem hi)).1
  have h1:=hp.nn
  have h2:(s.Own[i]).sum≤1125899906842624:=hp.le
  simp only[DN,List.length_map]
  rw[EN hi,cond_true,A9 (l:=s.Own.map λp=>QD p.sum) (by simpa using hi),Az (by omega)]
  simp only[Option.bind_some,List.getElem_map,EF,Ma]
  rw[show decide ((s.Own[i]).sum≤(s.Own[i]).sum)=true by simp,show decide ((0:Int)≤(s.Own[i]).sum)=true by simpa using h1,show decide ((s.Own[i]).sum≤1125899906842624)=true by simpa using h2]
  rfl) N 0 (by omega) (Nat.zero_le _)]
 unfold D6
 rw[show DM N b (CR s q) (D5 N b (CR s q)) N 0=D5 N b (CR s q) from NH q.length (λn i=>DM N b (CR s q) (D5 N b (CR s q)) n i) _ (λn i hi=>by
  simp only[DM];rw[EO hi];rfl) (λn i hi=>by
  have hm:=List.getElem_mem hi
  obtain⟨v1,v2,v3⟩:=k.val _ hm
  have v4:=Lg h.nn (q[i]).At (q[i]).To
  obtain⟨x,hx,hx1,hx2⟩:=k.bk _ hm
  have hL:=h.queue x hx
  have l1:=hL.at_
  have l2:=hL.to_
  simp only[DM]
  rw[EN hi,cond_true,A9 hi,Az (by omega)]
  simp only[Option.bind_some,EF,Ma,FY,v1,v2]
  rw[show decide (G4 s.Queue (q[i]).At (q[i]).To≤G4 s.Queue (q[i]).At (q[i]).To)=true by simp,show decide ((0:Int)≤G4 s.Queue (q[i]).At (q[i]).To)=true by simp;omega,show decide (G4 s.Queue (q[i]).At (q[i]).To≤1125899906842624)=true by simp;omega,show decide (G4 s.Queue (q[i]).At (q[i]).To≤0)=false by simp;omega,show decide ((q[i]).At<s.Hour)=false by simp;omega,show decide (0≤(q[i]).To)=true by simp;omega,show decide ((q[i]).To<(b.Places.length:Int))=true by simp;omega]
  simp only[Bool.not_true,Bool.and_self,cond_false,Option.bind_some,Bool.or_self]
  rcases Nat.eq_zero_or_pos i with h0|h0
  ·subst h0
   rw[show decide ((0:Int)<((0:Nat):Int))=false by simp]
   rfl
  ·rw[show decide ((0:Int)<(i:Int))=true by simp;omega,show Ar ((i:Int)-1)=((i-1:Nat):Int) by rw[E6 (by omega) (by omega)];omega,A9 (show i-1<q.length by omega)]
   simp only[cond_true,Option.bind_some]
   rw[Na (by omega)]
   simp only[Option.bind_some]
   have:=List.pairwise_iff_getElem.1 k.srt (i-1) i (by omega) hi (by omega)
   have:=NG.2 this
   rw[show decide (0≤QM q[i-1] q[i])=false by simp;omega]
   rfl) N 0 (by omega) (Nat.zero_le _)]
 unfold D5
 rw[show DL N b (CR s q) (Ek N) N 0=Ek N from NH s.Gates.length (λn i=>DL N b (CR s q) (Ek N) n i) _ (λn i hi=>by
  simp only[DL,List.length_map];rw[EO hi];rfl) (λn i hi=>by
  have hi2:i<b.Links.length:=by omega
  have hg:=h.gates i _ _ (List.getElem?_eq_getElem hi2) (List.getElem?_eq_getElem hi)
  obtain⟨⟨g1,g2⟩,⟨g3,g4⟩,g5⟩:=hg
  simp only[DL,List.length_map]
  rw[EN hi,cond_true,A9 (l:=s.Gates.map Xj) (by simpa using hi),A9 hi2,Az (by omega)]
  simp only[Option.bind_some,List.getElem_map]
  have hr:F2 N b.Links[i] (Xj s.Gates[i])=some true:=by
   unfold F2
   simp only[EF,Ma,D9,Cg,Option.bind_some,Ge,Pz]
   rw[show decide ((s.Gates[i]).Pos≤(s.Gates[i]).Pos)=true by simp,show decide ((0:Int)≤(s.Gates[i]).Pos)=true by simpa using g1,show decide ((s.Gates[i]).Pos≤(b.Links[i]).Positions)=true by simpa using g2,show decide ((0:Int)≤(s.Gates[i]).Target)=true by simpa using g3,show decide ((s.Gates[i]).Target≤(b.Links[i]).Positions)=true by simpa using g4]
   simp only[Bool.not_true,Bool.and_self,cond_false,Option.bind_some]
   cases ho:(s.Gates[i]).Open with
   |false=>
    simp only[Us,cond_false,decide_true,Bool.and_self,Bool.true_or,cond_true,Option.bind_some]
    cases (decide ((b.Links[i]).Kind≠5)&&decide ((b.Links[i]).Kind≠3))<;>rfl
   |true=>
    have hk:(decide ((b.Links[i]).Kind≠5)&&decide ((b.Links[i]).Kind≠3))=false:=by
     rcases g5 ho with e|e<;>simp [e]
    rw[hk]
    simp [Us]
  rw[hr]
  rfl) N 0 (by omega) (Nat.zero_le _)]
 rfl
theorem UM {N:Nat}(hN:2000000<N) {b:AJ}(hb:FE b) {s:AV}(h:EK b s) (hq:s.Queue.length≤500) {q:List Ay}(k:QI s.Queue q):Gg N (CR s q)=some 0:=by
 have hpl:=hb.pl
 have hlo:=h.own
 have hql:=k.len
 have htot:=h.tot
 have hown:=h.ownle
 unfold MV at htot
 have w0:∀n:Int,0≤n→n≤1125899906842624→Gu N ⟨n,n⟩=some 0:=λn h1 h2=>by
  unfold Gu
  show Option.bind (Bt N n n) (λy13=>some y13)=some 0
  rw[Vi N (by omega) (by omega) (by omega) (by omega)]
  simp
 have a0:CD N 0 0=some 0:=O9 N (by omega) (by omega) (by omega) (by omega)
 unfold Gg
 obtain⟨x1,i1,h1⟩:=HE s.Own.length (λn i x=>Dq N (CR s q) (Dr N (CR s q)) n x i) (Dr N (CR s q)) (λk x=>x=0) (λn k x hk=>by
  simp only[Dq,List.length_map];rw[EO hk];rfl) (λn k x hi hk=>by
  have hp:=(h.pools _ (List.getElem_mem hk)).1
  refine⟨0,rfl,?_⟩
  subst hi
  simp only[Dq,List.length_map]
  rw[EN hk,cond_true,A9 (l:=s.Own.map λp=>QD p.sum) (by simpa using hk),Az (by omega)]
  simp only[Option.bind_some,List.getElem_map,w0 _ hp.nn hp.le,a0]) N 0 0 rfl (by omega) (Nat.zero_le _)
 have h1:Dq N (CR s q) (Dr N (CR s q)) N 0 0=Dr N (CR s q) x1:=h1
 rw[h1]
 subst i1
 unfold Dr
 obtain⟨x2,i2,h2⟩:=HE q.length (λn i x=>Dp N (CR s q) (EW N) n x i) (EW N) (λk x=>x=0) (λn k x hk=>by
  simp only[Dp];rw[EO hk];rfl) (λn i x hi hk=>by
  obtain⟨v1,v2,v3⟩:=k.val _ (List.getElem_mem hk)
  have v4:=Lg h.nn (q[i]).At (q[i]).To
  refine⟨0,rfl,?_⟩
  subst hi
  simp only[Dp]
  rw[EN hk,cond_true,A9 hk,Az (by omega)]
  have hv:(q[i]).Vol=⟨G4 s.Queue (q[i]).At (q[i]).To,G4 s.Queue (q[i]).At (q[i]).To⟩:=by
   cases hV:(q[i]).Vol;rw[hV] at v1 v2;simp only at v1 v2;rw[v1,v2]
  simp only[Option.bind_some]
  rw[hv,w0 (G4 s.Queue (q[i]).At (q[i]).To) (by omega) (by omega)]
  simp only[Option.bind_some,a0]) N 0 0 rfl (by omega) (Nat.zero_le _)
 have h2:Dp N (CR s q) (EW N) N 0 0=EW N x2:=h2
 rw[h2,i2]
 rfl
end Go.Proofs.YtibidnaedddfdaaGreat
