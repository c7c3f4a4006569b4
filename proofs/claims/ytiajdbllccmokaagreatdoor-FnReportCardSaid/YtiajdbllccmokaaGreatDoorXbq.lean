import Derived.Test.YtiajdbllccmokaaGreatDoorXbj
import Derived.Test.YtiajdbllccmokaaGreatDoorXbp
import Derived.Laws.IdiomCopy
namespace Go.Proofs.YtiajdbllccmokaaGreatDoor
open Go.ChangeShapes Go.WideShapes Go.ChangeAt Go.RowKit Go.Deep Go.Proofs.Tryz
set_option linter.unusedVariables false
set_option linter.unusedSimpArgs false
set_option maxRecDepth 100000
set_option maxHeartbeats 16000000
def TB (W:World) (T:Nat) (A:OA):Prop:=∀b o,A=some ⟨b,o,none⟩->∃cs,ay W b T cs
theorem TB.own {W:World} {B e s n c:Nat} {A:OA} {ys:List Value} (h:W.ownsRow B e s (.slice A n c) n ys):TB W e A:=fun b o e1=>by
 subst e1;rcases h.2 with ⟨h0,hn⟩|⟨g,iJ,cur,hv,hB,hc,-⟩
 ·cases h0
 ·injection hv with e1;injection e1 with e1;injection e1 with e1;subst e1
  exact ⟨cur,hc⟩
theorem TB.ext {W W':World} {T:Nat} {A:OA} (h:TB W T A) (hx:Ext W W'):TB W' T A:=fun b o e=>by
 obtain ⟨cs,hb⟩:=h b o e
 exact ⟨cs,hb.ext hx⟩
theorem Zd {W:World} {q T T' s n i:Nat} {A:OA} {ys:List Value} {cs:Array Value} (h:Rd W W.heap.size s A n ys) (ht:TB W T A) (hb:ay W q T' cs) (he:T≠T') (u:Value):Rd (W.setCell (aA q i) u) (W.setCell (aA q i) u).heap.size s A n ys/\TB (W.setCell (aA q i) u) T A:=by
 have hne:∀b o,A=some ⟨b,o,none⟩->b≠q:=fun b o e1 e2=>by
  obtain ⟨ds,hd⟩:=ht b o e1;subst e2;unfold ay at hd hb;rw [hd] at hb;simp only [fW,Obj.cells.injEq] at hb
  exact he hb.2.1
 have hs:(W.setCell (aA q i) u).heap.size=W.heap.size:=ag
 refine ⟨⟨h.1,fun hn=>?_⟩,fun b o e1=>?_⟩
 ·obtain ⟨b,o,e1,mS,hc⟩:=h.2 hn;rw [hs]
  exact ⟨b,o,e1,mS,fun j v hv=>(sD (a:=⟨b,o+j,none⟩) (mO _ ⟨q,i,none⟩ u b (hne b o e1))).trans (hc j v hv)⟩
 ·obtain ⟨ds,hd⟩:=ht b o e1
  exact ⟨ds,hd.bX (p:=(aA q i)) (hne b o e1) u⟩
structure eS (W:World) (A1:OA) (l1:Nat) (A2:OA) (l2:Nat) (A3:OA) (l3:Nat) (xs:List Oq) (ps qs:List Int):Prop where
 a:Rd W W.heap.size 8 A1 l1 (aI xs)
 ta:TB W 56 A1
 b:Rd W W.heap.size 1 A2 l2 (aG ps)
 tb:TB W 3 A2
 c:Rd W W.heap.size 1 A3 l3 (aG qs)
 tc:TB W 3 A3
theorem AQ {w:World} {b:Nat}:∀(vs:List Value) (o:Nat) (w':World),w.grownBy w' (some b)->w.grownBy (w'.setCells b o vs) (some b)
 |[],_,_,h=>h
 |v::r,o,w',h=>AQ r (o+1) _ (cB h o v)
theorem yG {b T:Nat}:∀(vs:List Value) (o:Nat) (w:World) (cs:Array Value),ay w b T cs->∃ds,ay (w.setCells b o vs) b T ds
 |[],_,_,cs,h=>⟨cs,h⟩
 |v::r,o,_,_,h=>yG r (o+1) _ _ (h.ba o v)
theorem vF {b:Nat}:∀(vs:List Value) (o:Nat) (w:World),(w.setCells b o vs).heap.size=w.heap.size
 |[],_,_=>rfl
 |v::r,o,w=>by rw [World.setCells,vF r];simp
theorem PE {xs:List Oq}:∀u∈aI xs,u.oneCell'=true:=by
 intro u hu;unfold aI at hu;rw [sH] at hu;obtain ⟨o,-,ho⟩:=hu;unfold Oq.cells at ho;simp only [qR,IA,or_false] at ho;rcases ho with rfl|rfl|rfl|rfl|rfl|rfl|rfl|rfl<;>rfl
theorem Rs {W:World} {B l c:Nat} {A:OA} {xs:List Oq} (h:W.ownsRow B 56 8 (.slice A l c) l (aI xs)) (hx:xs.length=l) {k:Nat} (hk:k<l):
  ∃b,A=some ⟨b,0,none⟩/\l<=c/\B<=b/\(aI (xs.drop (k+1))).length=(l - (k+1))*8/\
   (∀j u,(aI (xs.drop (k+1)))[j]?=some u->W.cell? (aA b ((k+1)*8+j))=some u)/\
   (∀j,j<(aI (xs.drop (k+1))).length->(W.cell? (aA b (0+k*8+j))).isSome=true/\W.frozen? (aA b (0+k*8+j))=false)/\
   Rd (W.setCells b (0+k*8) (aI (xs.drop (k+1)))) (W.setCells b (0+k*8) (aI (xs.drop (k+1)))).heap.size 8 (some ⟨b,0,none⟩) (k+(l - (k+1))) (aI (xs.take k++xs.drop (k+1)))/\
   TB (W.setCells b (0+k*8) (aI (xs.drop (k+1)))) 56 (some ⟨b,0,none⟩)/\
   W.grownBy (W.setCells b (0+k*8) (aI (xs.drop (k+1)))) (some b):=by
 obtain ⟨b,rfl,hlc⟩:=kS h aa;obtain ⟨hB,hP⟩:=Uu h rfl [];obtain ⟨cs,hb⟩:=TB.own h b 0 rfl;have hr:=Rd.own h;obtain ⟨b',o',e1,mS,hc⟩:=hr.2 aa;injection e1 with e1;injection e1 with e1 e2;subst e1;subst e2;have oF:(aI (xs.drop (k+1))).length=(l - (k+1))*8:=by
  unfold aI;rw [fB Oq.aE,lU,hx]
 have bh:∀m,m<=l->(aI (xs.take m)).length=m*8:=fun m hm=>by
  unfold aI;rw [fB Oq.aE,lT,hx];congr 1;omega
 have TF:∀m,aI xs=aI (xs.take m)++aI (xs.drop m):=fun m=>by
  unfold aI;rw [<-lR,qW]
 have RL:∀j u,(aI (xs.drop (k+1)))[j]?=some u->W.cell? (aA b ((k+1)*8+j))=some u:=fun j u hu=>by
  have h9:=hc ((k+1)*8+j) u (by
   rw [TF (k+1),yL (by rw [bh _ aa];omega),bh _ aa];rw [show (k+1)*8+j - (k+1)*8=j by omega]
   exact hu)
  rwa [lM] at h9
 have Ru:∀j,j<(aI (xs.drop (k+1))).length->(W.cell? (aA b (0+k*8+j))).isSome=true/\W.frozen? (aA b (0+k*8+j))=false:=fun j hj=>by
  refine ⟨?_,hP.frozen _⟩;obtain ⟨u,hu⟩:=hP.cell (j:=0+k*8+j) (by rw [oF] at hj;omega);rw [hu];rfl
 refine ⟨b,rfl,hlc,hB,oF,RL,Ru,⟨?_,fun _=>⟨b,0,rfl,?_,fun j v hv=>?_⟩⟩,fun b2 o2 e2=>?_,AQ _ _ _ (jN W (some b))⟩
 ·unfold aI;rw [fB Oq.aE,lA,lT,lU,hx];congr 1;omega
 ·rw [vF]
  exact mS
 ·have e8:aI (xs.take k++xs.drop (k+1))=aI (xs.take k)++aI (xs.drop (k+1)):=by
   unfold aI;rw [lR]
  rw [e8] at hv
  by_cases hj:j<k*8
  ·rw [sB (by rw [bh _ aa];exact hj)] at hv;rw [World.cell?_setCells_out b _ _ _ _ (fun _ _=>Or.inl (by show 0+j<0+k*8;omega))];refine hc j v ?_;rw [TF k,sB (by rw [bh _ aa];exact hj)]
   exact hv
  ·rw [yL (by rw [bh _ aa];omega),bh _ aa] at hv;obtain ⟨hj2,hv2⟩:=gU.1 hv;have h9:=World.cell?_setCells_in b (aI (xs.drop (k+1))) (0+k*8) W (fun i hi=>(Ru i hi).1) (j - k*8) hj2;rw [show 0+k*8+(j - k*8)=0+j by omega,hv2] at h9
   exact h9
 ·injection e2 with e2;injection e2 with e2 e3;subst e2
  exact yG _ _ _ _ hb
theorem mR {w:World} {B e size n c:Nat} {A:OA} {xs:List Value} (h:w.ownsRow B e size (.slice A n c) n xs):n<=c:=by
 rcases zQ n with h0|h0
 ·omega
 ·obtain ⟨g,_,hc⟩:=kS h h0
  exact hc
theorem jH {w w':World} {B B' e e' s s' n m:Nat} {v u:Value} {xs ys:List Value} (h:w.ownsRow B e s v n xs) (ho:w.ownsRow B' e' s' u m ys) (he:e≠e') (hg:w.grownBy w' u.ownBlock):w'.ownsRow B e s v n xs:=by
 refine h.kept hg ?_;rcases cX h ho he with h1|h1
 ·exact .inl h1
 ·exact .inr h1
theorem agM {k l:Nat} (h:k<l) (hl:l<=40000000000):k+(l - (k+1))<=50000000000:=aa
theorem ank {c k l:Nat} (h:k<l) (hc:l<=c) (e:c=k+1):l - (k+1)=0:=aa
theorem acn {W:World} {ops:Array Oper} {o:Oper} {a:Act} {K:Act->World->Prop} {Q:Exit->Act->World->Prop} {E:Prop} (fx:o.guard=none) (s x:Operand)
  (ho:aO o s x 24) {B b l c k:Nat} {xs:List Oq} (h:W.ownsRow B 56 8 (.slice (some ⟨b,0,none⟩) l c) l (aI xs)) (hx:xs.length=l) (hk:k<l)
  (hs:a.eval s=.slice (some ⟨b,0,none⟩) k c) (C:OA) (d:Nat) (he:a.eval x=.slice C (l - (k+1)) d) (hC:C=if c=k+1 then some ⟨b,0,none⟩ else some ⟨b,(k+1)*8,none⟩)
  (hK:∀w',Rd w' w'.heap.size 8 (some ⟨b,0,none⟩) (k+(l - (k+1))) (aI (xs.take k++xs.drop (k+1)))->TB w' 56 (some ⟨b,0,none⟩)->W.grownBy w' (some b)->K (a.put o.dst (.slice (some ⟨b,0,none⟩) (k+(l - (k+1))) c)) w'):
  if Region.wanted o (yielded ops a.tmps)=true then Oper.wp prog o a W K Q else E:=by
 obtain ⟨b',e1,hlc,hB,oF,RL,Ru,h1,h2,h3⟩:=Rs h hx hk;injection e1 with e1;injection e1 with e1;subst e1;obtain ⟨ad,rfl,had⟩:∃ad,C=some ad/\(l - (k+1)=0\/ad=⟨b,(k+1)*8,none⟩):=by
  rw [hC];split
  ·exact ⟨_,rfl,.inl aa⟩
  ·exact ⟨_,rfl,.inr rfl⟩
 obtain ⟨i0,hi,eX,gX,jK⟩:=iF NF;refine step_append_room fx s x _ ho 56 i0 8 underlying24 hi gX b 0 k c hs ad (l - (k+1)) d (aI (xs.drop (k+1))) he oF ?_ PE aa Ru (hK _ h1 h2 h3);intro j u hu;rcases had with h0|rfl
 ·have hj:=(gU.1 hu).1;omega
 ·rw [Addr.add_lit]
  exact RL j u hu
section
variable {W W':World} {A1 A2 A3:OA} {l1 l2 l3 q T:Nat} {xs:List Oq} {ps qs:List Int}
theorem eS.ext (h:eS W A1 l1 A2 l2 A3 l3 xs ps qs) (hx:Ext W W'):eS W' A1 l1 A2 l2 A3 l3 xs ps qs:=⟨h.a.ext hx,h.ta.ext hx,h.b.ext hx,h.tb.ext hx,h.c.ext hx,h.tc.ext hx⟩
theorem eS.set {cs:Array Value} (h:eS W A1 l1 A2 l2 A3 l3 xs ps qs) (hb:ay W q T cs) (h1:56≠T) (h2:3≠T) (i:Nat) (u:Value):eS (W.setCell (aA q i) u) A1 l1 A2 l2 A3 l3 xs ps qs:=by
 obtain ⟨r1,t1⟩:=Zd (i:=i) h.a h.ta hb h1 u;obtain ⟨r2,t2⟩:=Zd (i:=i) h.b h.tb hb h2 u;obtain ⟨r3,t3⟩:=Zd (i:=i) h.c h.tc hb h2 u
 exact ⟨r1,t1,r2,t2,r3,t3⟩
theorem eS.alV {z0 z1 z2 z3 z4:Value} (h:eS W A1 l1 A2 l2 A3 l3 xs ps qs) (hb:ay W q T #[z0,z1,z2,z3,z4]) (h1:56≠T) (h2:3≠T) (a b c d e:Value):eS (ic W q a b c d e) A1 l1 A2 l2 A3 l3 xs ps qs:=
 (((((h.set hb h1 h2 0 a).set (hb.ba 0 a) h1 h2 1 b).set ((hb.ba 0 a).ba 1 b) h1 h2 2 c).set (((hb.ba 0 a).ba 1 b).ba 2 c) h1 h2 3 d).set ((((hb.ba 0 a).ba 1 b).ba 2 c).ba 3 d) h1 h2 4 e)
theorem eS.bP {z0 z1 z2 z3:Value} (h:eS W A1 l1 A2 l2 A3 l3 xs ps qs) (hb:ay W q T #[z0,z1,z2,z3]) (h1:56≠T) (h2:3≠T) (a b c d:Value):eS (bP W q a b c d) A1 l1 A2 l2 A3 l3 xs ps qs:=
 ((((h.set hb h1 h2 0 a).set (hb.ba 0 a) h1 h2 1 b).set ((hb.ba 0 a).ba 1 b) h1 h2 2 c).set (((hb.ba 0 a).ba 1 b).ba 2 c) h1 h2 3 d)
theorem eS.dN {z0 z1:Value} (h:eS W A1 l1 A2 l2 A3 l3 xs ps qs) (hb:ay W q T #[z0,z1]) (h1:56≠T) (h2:3≠T) (a b:Value):eS ((W.setCell (aA q 0) a).setCell (aA q 1) b) A1 l1 A2 l2 A3 l3 xs ps qs:=
 (h.set hb h1 h2 0 a).set (hb.ba 0 a) h1 h2 1 b
end
def RO (W:World) (g s:Nat) (A:OA) (len:Nat) (os:List Oq):Prop:=(os.length=len/\len<=200)/\(∀b o,A=some ⟨b,o,none⟩->g<b/\b<s)/\Rd W s 8 A len (aI os)
section
variable {W W':World} {g s len:Nat} {A:OA} {os:List Oq}
theorem RO.heap (h:RO W g s A len os) (hk:∀b,g<b->b<s->W'.heap[b]?=W.heap[b]?):RO W' g s A len os:=by
 refine ⟨h.1,h.2.1,h.2.2.1,fun hn=>?_⟩;obtain ⟨b,o,e,hb,hc⟩:=h.2.2.2 hn;have h1:=h.2.1 b o e
 exact ⟨b,o,e,hb,fun j u hu=>(sD (a:=⟨b,o+j,none⟩) (hk b h1.1 h1.2)).trans (hc j u hu)⟩
theorem RO.ext (h:RO W g s A len os) (hs:s<=W.heap.size) (hx:Ext W W'):RO W' g s A len os:=⟨h.1,h.2.1,h.2.2.up hx hs⟩
theorem RO.grown {row:Option Nat} (h:RO W g s A len os) (hs:s<=W.heap.size) (hg:W.grownBy W' row) (hr:∀k,row=some k->k<=g\/s<=k):RO W' g s A len os:=
 h.heap fun b h1 h2=>hg.block b aa (fun e=>oM (hr b e.symm))
theorem RO.set (h:RO W g s A len os) {p:Addr} (hp:p.block<=g\/s<=p.block) (u:Value):RO (W.setCell p u) g s A len os:=
 h.heap fun b h1 h2=>mO _ p u b aa
theorem RO.ic (h:RO W g s A len os) {q:Nat} (hq:q<=g) (a b c d e:Value):RO (ic W q a b c d e) g s A len os:=
 ((((h.set (p:=(aA q 0)) (.inl hq) a).set (p:=(aA q 1)) (.inl hq) b).set (p:=(aA q 2)) (.inl hq) c).set (p:=(aA q 3)) (.inl hq) d).set (p:=(aA q 4)) (.inl hq) e
theorem RO.bP (h:RO W g s A len os) {q:Nat} (hq:q<=g) (a b c d:Value):RO (bP W q a b c d) g s A len os:=
 (((h.set (p:=(aA q 0)) (.inl hq) a).set (p:=(aA q 1)) (.inl hq) b).set (p:=(aA q 2)) (.inl hq) c).set (p:=(aA q 3)) (.inl hq) d
theorem RO.dN (h:RO W g s A len os) {q:Nat} (hq:q<=g) (a b:Value):RO ((W.setCell (aA q 0) a).setCell (aA q 1) b) g s A len os:=
 (h.set (p:=(aA q 0)) (.inl hq) a).set (p:=(aA q 1)) (.inl hq) b
theorem RO.own {w0:World} {cap:Nat} (h:W.ownsRow w0.heap.size 56 8 (.slice A len cap) len (aI os)) (hg:g<w0.heap.size) (hs:W.heap.size<=s) (hl:len<=200):RO W g s A len os:=by
 have hr:=Rd.own h;refine ⟨⟨hr.len Oq.aE aa,hl⟩,fun b o e=>?_,hr.more hs⟩;subst e;have:=h.lt b rfl;omega
end
theorem aco (xs:List Oq) (k:Nat):(ai (xs.take k++xs.drop (k+1))).length<=(ai xs).length:=by
 have e:ai xs=ai (xs.take k)++ai (xs.drop k):=by rw [<-bJ,qW]
 have e2:ai (xs.drop k)=ai ((xs.drop k).take 1)++ai (xs.drop (k+1)):=by
  rw [<-bJ,<-List.drop_drop,qW]
 rw [bJ,e,e2];simp only [lA];omega
theorem Ze (xs:List Oq) (o:Oq):(ai (xs++[o])).length<=(ai xs).length+1:=by
 rw [bJ,lA];have:(ai [o]).length<=1:=by unfold ai;rw [jk];exact List.length_filter_le _ _
 omega
structure LZ (w W:World) (g s6 s7 s9:Nat) (N I B:Int) (A:OA) (len cap:Nat) (n:Int) (E:OA) (l c:Nat):Prop where
 r0:ay W w.heap.size 29 jG
 r1:ay W (w.heap.size+1) 26 #[iI 0,iI 0,iI 0,nS]
 r2:ay W (w.heap.size+1+1) 42 jC
 b6:ay W s6 26 #[iI N,iI I,iI B,.slice A len cap]
 b7:ay W s7 42 #[iI n,.slice E l c]
 cu:dY W g
 x:Ext w W
 gs:w.heap.size+1+1<g/\g<s6/\g<s7/\g<s9/\s6<s9/\s7≠s9
 ro:∃os,RO W g s6 A len os
section
variable {w W W':World} {g s6 s7 s9:Nat} {N I B:Int} {A:OA} {len cap:Nat} {n:Int} {E:OA} {l c:Nat}
theorem LZ.ext (h:LZ w W g s6 s7 s9 N I B A len cap n E l c) (hx:Ext W W'):LZ w W' g s6 s7 s9 N I B A len cap n E l c:=⟨h.r0.ext hx,h.r1.ext hx,h.r2.ext hx,h.b6.ext hx,h.b7.ext hx,h.cu.ext hx,h.x.trans hx,h.gs,h.ro.imp fun _ h9=>h9.ext (nZ h.b6.lt) hx⟩
theorem LZ.grown (h:LZ w W g s6 s7 s9 N I B A len cap n E l c) (hg:W.grownBy W' (some g)) (hC:dY W' g):LZ w W' g s6 s7 s9 N I B A len cap n E l c:=by
 have fi:=h.gs
 exact ⟨h.r0.grown hg (fun k hk=>aw),h.r1.grown hg (fun k hk=>aw),h.r2.grown hg (fun k hk=>aw),h.b6.grown hg (fun k hk=>aw),h.b7.grown hg (fun k hk=>aw),hC,h.x.grown hg (fun k hk=>aw),fi,h.ro.imp fun _ h9=>h9.grown (nZ h.b6.lt) hg (fun k hk=>aw)⟩
theorem LZ.row {e sz m:Nat} {v:Value} {ys:List Value} (h:LZ w W g s6 s7 s9 N I B A len cap n E l c) (ho:W.ownsRow w.heap.size e sz v m ys) (h1:e≠29) (h2:e≠26) (h3:e≠42) (h4:e≠73) (h5:e≠5) (hg:W.grownBy W' v.ownBlock) (ZI:dY W' g) (h6:∀k,v.ownBlock=some k->s6<=k):LZ w W' g s6 s7 s9 N I B A len cap n E l c:=
 ⟨cQ h.r0 ho h1 hg,cQ h.r1 ho h2 hg,cQ h.r2 ho h3 hg,cQ h.b6 ho h2 hg,cQ h.b7 ho h3 hg,ZI,h.x.grown hg (fun k hk=>(ho.lt k hk).1),h.gs,h.ro.imp fun _ h9=>h9.grown (nZ h.b6.lt) hg (fun k hk=> .inr (h6 k hk))⟩
theorem LZ.acp (h:LZ w W g s6 s7 s9 N I B A len cap n E l c) (i:Nat) (u:Value):LZ w (W.setCell (aA s9 i) u) g s6 s7 s9 N I B A len cap n E l c:=by
 have fi:=h.gs
 exact ⟨h.r0.bX (p:=(aA s9 i)) (by show w.heap.size≠s9;omega) _,h.r1.bX (p:=(aA s9 i)) (by show w.heap.size+1≠s9;omega) _,h.r2.bX (p:=(aA s9 i)) (by show w.heap.size+1+1≠s9;omega) _,h.b6.bX (p:=(aA s9 i)) (by show s6≠s9;omega) _,h.b7.bX (p:=(aA s9 i)) fi.2.2.2.2.2 _,h.cu.ba (p:=(aA s9 i)) fi.2.2.2.1 _,h.x.setCell (p:=(aA s9 i)) (by show w.heap.size<=s9;omega) _,fi,h.ro.imp fun _ h9=>h9.set (p:=(aA s9 i)) (.inr (by show s6<=s9;omega)) u⟩
end
def agN (w:World) (e:Ending) (w':World):Prop:=
 ∃(cn cb:Int) (A1:OA) (l1 c1:Nat) (A2:OA) (l2 c2:Nat) (A3:OA) (l3 c3:Nat) (xs:List Oq) (ps qs:List Int) (N I B:Int) (A:OA) (len cap:Nat) (n:Int) (E:OA) (l c:Nat),e=.returned (.tuple #[.agg #[iI cn,iI cb,.slice A1 l1 c1,.slice A2 l2 c2,.slice A3 l3 c3],.agg #[iI N,iI I,iI B,.slice A len cap],.agg #[iI n,.slice E l c]])/\eS w' A1 l1 A2 l2 A3 l3 xs ps qs/\(l1<=50000000000/\l2<=8/\l3<=8/\l2<=c2/\l3<=c3)/\Ext w w'/\(ai xs).length<=950000/\∃os,(os.length=len/\len<=200)/\(∀b o,A=some ⟨b,o,none⟩->w.heap.size<=b/\b<w'.heap.size)/\Rd w' w'.heap.size 8 A len (aI os)
theorem AR {w:World} {g k t:Nat} {cs:Array Value} (h:ay w k t cs) (hg:k≠g) (a b c d e:Value):ay (ic w g a b c d e) k t cs:=
 ((((h.bX (p:=(aA g 0)) hg a).bX (p:=(aA g 1)) hg b).bX (p:=(aA g 2)) hg c).bX (p:=(aA g 3)) hg d).bX (p:=(aA g 4)) hg e
theorem agO {W:World} {s:Nat} {cn cb:Int} {A1:OA} {l1 c1:Nat} {A2:OA} {l2 c2:Nat} {A3:OA} {l3 c3:Nat} {xs:List Oq} {ps qs:List Int} (hB:ay W s 29 #[iI cn,iI cb,.slice A1 l1 c1,.slice A2 l2 c2,.slice A3 l3 c3]) (hR:eS W A1 l1 A2 l2 A3 l3 xs ps qs) (hN:l1<=50000000000/\l2<=8/\l3<=8/\l2<=c2/\l3<=c3) (hF:(ai xs).length<=950000):
  ∃(cn cb:Int) (A1:OA) (l1 c1:Nat) (A2:OA) (l2 c2:Nat) (A3:OA) (l3 c3:Nat) (xs:List Oq) (ps qs:List Int),Hid (ay W s 29 #[iI cn,iI cb,.slice A1 l1 c1,.slice A2 l2 c2,.slice A3 l3 c3])/\Hid (eS W A1 l1 A2 l2 A3 l3 xs ps qs)/\Hid (l1<=50000000000/\l2<=8/\l3<=8/\l2<=c2/\l3<=c3)/\Hid ((ai xs).length<=950000):=⟨cn,cb,A1,l1,c1,A2,l2,c2,A3,l3,c3,xs,ps,qs,hB,hR,hN,hF⟩
theorem Zf {P:Prop} (h:P:=by
 refine dm (S:=(fun W=>((W.cell? (aA s9 0)=some (iI cn)/\W.cell? (aA s9 1)=some (iI cb)/\W.cell? (aA s9 2)=some (.slice A1 l1 c1)/\W.cell? (aA s9 3)=some (.slice A2 l2 c2)/\W.cell? (aA s9 4)=some (.slice A3 l3 c3))/\(W.cell? (aA s6 0)=some (iI N)/\W.cell? (aA s6 1)=some (iI I)/\W.cell? (aA s6 2)=some (iI B)/\W.cell? (aA s6 3)=some (.slice A len cap)))/\W.cell? (aA s7 0)=some (iI n)/\W.cell? (aA s7 1)=some (.slice E l c))) af (⟨⟨(bG (HB.u.drew)).1,(aB (HL.u.b6.drew)).1⟩,(HL.u.b7.drew).cell 0,(HL.u.b7.drew).cell 1⟩) (fun ay4=>?_);refine tq 0 ?_;refine tq 1 ?_;refine tq 2 ?_;obtain ⟨W0,Kw⟩:=ey (WW.drew);have yI:=hY (HL.u.ext (xZ WW).drew);have eG:=hY (HB.u.ext (xZ WW).drew);have LK:=hY (HR.u.ext (xZ WW).drew);rw [<-Kw] at yI eG LK |-;clear Kw HL HB HR ay4;have fi:=yI.u.gs;obtain ⟨os,Gc⟩:=yI.u.ro;have f1:=yI.u.r0.ic (iI cn) (iI cb) (.slice A1 l1 c1) (.slice A2 l2 c2) (.slice A3 l3 c3);obtain ⟨⟨a0,a1,a2,a3,a4⟩,y0,y1,y2,y3,y4⟩:=bG yI.u.r0;refine o1 3 fun K hK=>?_
 go_simp;have k9:=AR eG.u (aa:s9≠w.heap.size) (iI cn) (iI cb) (.slice A1 l1 c1) (.slice A2 l2 c2) (.slice A3 l3 c3);have k6:=AR yI.u.b6 (aa:s6≠w.heap.size) (iI cn) (iI cb) (.slice A1 l1 c1) (.slice A2 l2 c2) (.slice A3 l3 c3);have k7:=AR yI.u.b7 (aa:s7≠w.heap.size) (iI cn) (iI cb) (.slice A1 l1 c1) (.slice A2 l2 c2) (.slice A3 l3 c3);have k1:=AR yI.u.r1 (aa:w.heap.size+1≠w.heap.size) (iI cn) (iI cb) (.slice A1 l1 c1) (.slice A2 l2 c2) (.slice A3 l3 c3);have k2:=AR yI.u.r2 (aa:w.heap.size+1+1≠w.heap.size) (iI cn) (iI cb) (.slice A1 l1 c1) (.slice A2 l2 c2) (.slice A3 l3 c3);have mI:=hY (LK.u.alV yI.u.r0 ae ae (iI cn) (iI cb) (.slice A1 l1 c1) (.slice A2 l2 c2) (.slice A3 l3 c3));have dk:=hY (iA yI.u.x (g:=w.heap.size) (lI _) (iI cn) (iI cb) (.slice A1 l1 c1) (.slice A2 l2 c2) (.slice A3 l3 c3));have alW:=hY (Gc.ic (q:=w.heap.size) aa (iI cn) (iI cb) (.slice A1 l1 c1) (.slice A2 l2 c2) (.slice A3 l3 c3));refine ov hK (⟨⟨(bG (k9)).1,(aB (k6)).1⟩,(k7).cell 0,(k7).cell 1⟩) fun ay4=>?_
 clear ay4 a0 a1 a2 a3 a4 y0 y1 y2 y3 y4 LK;change wpAnyH _ _ _ _ _ _ _ _ (ic W0 w.heap.size (iI cn) (iI cb) (.slice A1 l1 c1) (.slice A2 l2 c2) (.slice A3 l3 c3));generalize ic W0 w.heap.size (iI cn) (iI cb) (.slice A1 l1 c1) (.slice A2 l2 c2) (.slice A3 l3 c3)=Wp at*
 clear yI eG Gc;obtain ⟨⟨a0,a1,a2,a3⟩,y0,y1,y2,y3⟩:=aB k1;refine o1 4 fun K hK=>?_
 go_simp;have m9:=dh k9 (aa:s9≠w.heap.size+1) (iI N) (iI I) (iI B) (.slice A len cap);have m6:=dh k6 (aa:s6≠w.heap.size+1) (iI N) (iI I) (iI B) (.slice A len cap);have m7:=dh k7 (aa:s7≠w.heap.size+1) (iI N) (iI I) (iI B) (.slice A len cap);have m0:=dh f1 (aa:w.heap.size≠w.heap.size+1) (iI N) (iI I) (iI B) (.slice A len cap);have m1:=k1.bP (iI N) (iI I) (iI B) (.slice A len cap);have m2:=dh k2 (aa:w.heap.size+1+1≠w.heap.size+1) (iI N) (iI I) (iI B) (.slice A len cap);have iL:=hY (mI.u.bP k1 ae ae (iI N) (iI I) (iI B) (.slice A len cap));have kj:=hY (br dk.u (g:=w.heap.size+1) (Nat.le_succ _) (iI N) (iI I) (iI B) (.slice A len cap));have Zg:=hY (alW.u.bP (q:=w.heap.size+1) aa (iI N) (iI I) (iI B) (.slice A len cap));clear alW;refine ov hK (⟨⟨(bG (m9)).1,(aB (m6)).1⟩,(m7).cell 0,(m7).cell 1⟩) fun ay4=>?_
 clear ay4 a0 a1 a2 a3 y0 y1 y2 y3 mI dk;change wpAnyH _ _ _ _ _ _ _ _ (bP Wp (w.heap.size+1) (iI N) (iI I) (iI B) (.slice A len cap));generalize bP Wp (w.heap.size+1) (iI N) (iI I) (iI B) (.slice A len cap)=Wr at*
 clear k9 k6 k7 k1 k2 f1;obtain ⟨⟨a0,a1⟩,y0,y1⟩:=fu m2;refine o1 5 fun K hK=>?_
 go_simp;have p9:=(m9.bX (p:=(aA (w.heap.size+1+1) 0)) (by show s9≠w.heap.size+1+1;omega) (iI n)).bX (p:=(aA (w.heap.size+1+1) 1)) (by show s9≠w.heap.size+1+1;omega) (.slice E l c);have p6:=(m6.bX (p:=(aA (w.heap.size+1+1) 0)) (by show s6≠w.heap.size+1+1;omega) (iI n)).bX (p:=(aA (w.heap.size+1+1) 1)) (by show s6≠w.heap.size+1+1;omega) (.slice E l c);have p7:=(m7.bX (p:=(aA (w.heap.size+1+1) 0)) (by show s7≠w.heap.size+1+1;omega) (iI n)).bX (p:=(aA (w.heap.size+1+1) 1)) (by show s7≠w.heap.size+1+1;omega) (.slice E l c);have p0:=(m0.bX (p:=(aA (w.heap.size+1+1) 0)) (by show w.heap.size≠w.heap.size+1+1;omega) (iI n)).bX (p:=(aA (w.heap.size+1+1) 1)) (by show w.heap.size≠w.heap.size+1+1;omega) (.slice E l c);have p1:=(m1.bX (p:=(aA (w.heap.size+1+1) 0)) (by show w.heap.size+1≠w.heap.size+1+1;omega) (iI n)).bX (p:=(aA (w.heap.size+1+1) 1)) (by show w.heap.size+1≠w.heap.size+1+1;omega) (.slice E l c);have p2:=m2.nP (iI n) (.slice E l c);have Ak:=hY (iL.u.dN m2 ae ae (iI n) (.slice E l c));have iM:Hid (Ext w ((Wr.setCell (aA (w.heap.size+1+1) 0) (iI n)).setCell (aA (w.heap.size+1+1) 1) (.slice E l c))):=(kj.u.setCell (p:=(aA (w.heap.size+1+1) 0)) (by show w.heap.size<=w.heap.size+1+1;omega) _).setCell (p:=(aA (w.heap.size+1+1) 1)) (by show w.heap.size<=w.heap.size+1+1;omega) _;have TD:=hY (Zg.u.dN (q:=w.heap.size+1+1) aa (iI n) (.slice E l c));have ou:=p6.lt;have HSZ:=hY (nZ ou);clear Zg ou;refine ov hK (⟨⟨(bG (p9)).1,(aB (p6)).1⟩,(p7).cell 0,(p7).cell 1⟩) fun ay4=>?_
 refine dn ?_;clear ay4 a0 a1 y0 y1 iL kj m9 m6 m7 m0 m1 m2 p9 p6 p7;generalize (Wr.setCell (aA (w.heap.size+1+1) 0) (iI n)).setCell (aA (w.heap.size+1+1) 1) (.slice E l c)=Ws at*
 obtain ⟨⟨a0,a1,a2,a3,a4⟩,-⟩:=bG p0;obtain ⟨⟨b0,b1,b2,b3⟩,-⟩:=aB p1;obtain ⟨⟨d0,d1⟩,-⟩:=fu p2;clear p0 p1 p2;go_wp2
 exact bR (v:=.tuple #[.agg #[iI cn,iI cb,.slice A1 l1 c1,.slice A2 l2 c2,.slice A3 l3 c3],.agg #[iI N,iI I,iI B,.slice A len cap],.agg #[iI n,.slice E l c]]) (by simp [results,results12,go_sem,a0,a1,a2,a3,a4,b0,b1,b2,b3,d0,d1]) rfl ⟨cn,cb,A1,l1,c1,A2,l2,c2,A3,l3,c3,xs,ps,qs,N,I,B,A,len,cap,n,E,l,c,rfl,Ak.u,HN.u,iM.u,HF.u,os,TD.u.1,fun b o e9=>(oN (TD.u.2.1 b o e9) HSZ.u),TD.u.2.2.more HSZ.u⟩):P:=h
theorem adK {P:Prop} (h:P:=by
 refine o1 8 fun K hK=>?_
 have fi:=Nz.u;have hlz:=HZ.u;refine Ja (B:=s6+1) ah _ _ ah _ l1 xs ah yK.u (oM agP.u) ⟨1,x,0,0,0⟩ _ _ ah ah aa ?_;intro A9 c9 w7 h1 h2 h9;have rO:Hid (eS w7 A9 (l1+1) A2 l2 A3 l3 (xs++[⟨1,x,0,0,0⟩]) ps qs):=⟨Rd.own h1,TB.own h1,Rd.own (jH mr.u yK.u ae h2),TB.own (jH mr.u yK.u ae h2),Rd.own (jH MR.u yK.u ae h2),TB.own (jH MR.u yK.u ae h2)⟩;have HL7:=hY (OK.u.row (aC yK.u aa) ae ae ae ae ae h2 (OK.u.cu.grown h2 (fun k hk=>oM (yK.u.lt k hk))) (fun k hk=>oM (yK.u.lt k hk)));have lX:Hid (ay w7 s9 29 #[iI (nn:Int),iI cb,.slice A1 l1 c1,.slice A2 l2 c2,.slice A3 l3 c3]):=cQ dL.u yK.u ae h2;have HF:Hid ((ai (xs++[⟨1,x,0,0,0⟩])).length<=950000):=lK (Ze _ _) (oM HFW.u);have HN:Hid (l1+1<=50000000000/\l2<=8/\l3<=8/\l2<=c2/\l3<=c3):=oD
 clear OK dL yK mr MR agP fi hlz h1 h2 h9;refine ov hK ((bG lX.u).1.1) fun ay4=>?_
 refine tq 9 ?_;obtain ⟨⟨y0,y1,y2,y3,y4⟩,z0,z1,z2,z3,z4⟩:=bG lX.u;refine o1 10 fun K hK=>?_
 go_simp;have HR:Hid (eS (w7.setCell (aA s9 2) (.slice A9 (l1+1) c9)) A9 (l1+1) A2 l2 A3 l3 (xs++[⟨1,x,0,0,0⟩]) ps qs):=rO.u.set lX.u ae ae 2 _;have HL:Hid (LZ w (w7.setCell (aA s9 2) (.slice A9 (l1+1) c9)) g s6 s7 s9 N I B A len cap n E l c):=HL7.u.acp 2 _;have HB:Hid (ay (w7.setCell (aA s9 2) (.slice A9 (l1+1) c9)) s9 29 #[iI (nn:Int),iI cb,.slice A9 (l1+1) c9,.slice A2 l2 c2,.slice A3 l3 c3]):=lX.u.ba 2 _;refine ov hK ((bG HB.u).1.1) fun ay4=>?_
 refine dn ?_;clear y0 y1 y2 y3 y4 z0 z1 z2 z3 z4 rO HL7 lX HZ Nz PG ay4;generalize w7.setCell (aA s9 2) (.slice A9 (l1+1) c9)=WW at*
 go_upto_region 17 with fail;obtain ⟨cn,cb,A1,l1,c1,A2,l2,c2,A3,l3,c3,xs,ps,qs,HB,HR,HN,HF⟩:=agO HB.u HR.u HN.u HF.u
 exact Zf):P:=h
theorem alX {P:Prop} (h:P:=by
 refine o1 9 fun K hK=>?_
 refine acn ah _ _ ah zw.u HZ.u.2.2.2.2 ZD.u ah _ _ ah hCx.symm ?_;clear hCx;intro w7 h1 h2 h3;have fi:=Nz.u;have rO:Hid (eS w7 (some ⟨b,0,none⟩) (kk+(l1 - (kk+1))) A2 l2 A3 l3 (xs.take kk++xs.drop (kk+1)) ps qs):=⟨h1,h2,Rd.own (jH rA.u zw.u ae h3),TB.own (jH rA.u zw.u ae h3),Rd.own (jH zx.u zw.u ae h3),TB.own (jH zx.u zw.u ae h3)⟩;have HL7:=hY (yI.u.row (aC zw.u aa) ae ae ae ae ae h3 (yI.u.cu.grown h3 (fun k hk=>by injection hk;have:=FD.u;omega)) (fun k hk=>by have h9:b=k:=nT (show some b=some k from hk);have:=FD.u;omega));have lX:Hid (ay w7 s9 29 #[iI (nn:Int),iI cb,.slice (some ⟨b,0,none⟩) l1 c1,.slice A2 l2 c2,.slice A3 l3 c3]):=cQ eG.u zw.u ae h3;have HF:Hid ((ai (xs.take kk++xs.drop (kk+1))).length<=950000):=lK (aco _ _) (oM HFW.u);have HN:Hid (kk+(l1 - (kk+1))<=50000000000/\l2<=8/\l3<=8/\l2<=c2/\l3<=c3):=⟨agM ZD.u HZ.u.2.1,lK HZ.u.2.2.1 ae,lK HZ.u.2.2.2.1 ae,mR rA.u,mR zx.u⟩;clear yI eG zw rA zx fi h1 h2 h3;refine ov hK (trivial) fun ay4=>?_
 refine tq 10 ?_;obtain ⟨⟨y0,y1,y2,y3,y4⟩,z0,z1,z2,z3,z4⟩:=bG lX.u;refine o1 11 fun K hK=>?_
 go_simp;have HR:Hid (eS (w7.setCell (aA s9 2) (.slice (some ⟨b,0,none⟩) (kk+(l1 - (kk+1))) c1)) (some ⟨b,0,none⟩) (kk+(l1 - (kk+1))) A2 l2 A3 l3 (xs.take kk++xs.drop (kk+1)) ps qs):=rO.u.set lX.u ae ae 2 _;have HL:Hid (LZ w (w7.setCell (aA s9 2) (.slice (some ⟨b,0,none⟩) (kk+(l1 - (kk+1))) c1)) g s6 s7 s9 N I B A len cap n E l c):=HL7.u.acp 2 _;have HB:Hid (ay (w7.setCell (aA s9 2) (.slice (some ⟨b,0,none⟩) (kk+(l1 - (kk+1))) c1)) s9 29 #[iI (nn:Int),iI cb,.slice (some ⟨b,0,none⟩) (kk+(l1 - (kk+1))) c1,.slice A2 l2 c2,.slice A3 l3 c3]):=lX.u.ba 2 _;refine ov hK (trivial) fun ay4=>?_
 refine dn ?_;clear y0 y1 y2 y3 y4 z0 z1 z2 z3 z4 rO HL7 lX HZ Nz PG ay4 ZD FD aqS Vu WT ajF ajG ajH;generalize w7.setCell (aA s9 2) (.slice (some ⟨b,0,none⟩) (kk+(l1 - (kk+1))) c1)=WW at*
 go_upto_region 17 with fail;obtain ⟨cn,cb,A1,l1,c1,A2,l2,c2,A3,l3,c3,xs,ps,qs,HB,HR,HN,HF⟩:=agO HB.u HR.u HN.u HF.u
 exact Zf):P:=h
theorem nL {P:Prop} (h:P:=by
 obtain ⟨cn,cb,A1,l1,c1,A2,l2,c2,A3,l3,c3,xs,ps,qs,HB,HR,HN,HF⟩:=agO HB.u HR.u HN.u HF.u
 exact Zf):P:=h
theorem Fm {P:Prop} (h:P:=by
 generalize hCx:(if c1=kk+1 then some (⟨b,0,none⟩:Addr) else some ⟨b,(kk+1)*8,none⟩)=Cx at*
 exact alX):P:=h
theorem Fo {P:Prop} (h:P:=by
 refine o1 7 fun K hK=>?_
 go_simp;refine ov hK ((bG (dL.u.alloc _)).1.1) fun ay4=>?_
 exact adK):P:=h
theorem MP (Ab:OA) (nb cb0:Nat) (bs:List Int) (w:World) (h:Rd w w.heap.size 1 Ab nb (IH bs)) (hn:nb<=1048576):
  Calls prog 12 #[.slice Ab nb cb0] w (agN w):=by
 have HBS:=hY h;clear h;go_enter func12,ntmps12;go_wp2_with fail;refine (GA Ab nb cb0 bs _ (HBS.u.ext ((((xZ w).alloc _).alloc _).alloc _)) hn).mono ?_;rintro e w1 ⟨rfl,Ym,aS⟩;have BG:Ext w w1:=Ext.trans ((((xZ w).alloc _).alloc _).alloc _) aS;have hR0:ay w1 w.heap.size 29 jG:=(((ay.new w _ _).alloc _).alloc _).ext aS;have hR1:ay w1 (w.heap.size+1) 26 #[iI 0,iI 0,iI 0,nS]:=((ay.newAt ag).alloc _).ext aS;have hR2:ay w1 (w.heap.size+1+1) 42 jC:=(ay.newAt ag).ext aS;obtain ⟨g,hg⟩:=ey ((((w.alloc (cO jG 29)).alloc (cO #[iI 0,iI 0,iI 0,nS] 26)).alloc (cO jC 42)).heap.size);have LJ:g=w.heap.size+1+1+1:=by rw [hg];simp
 simp only [<-hg] at Ym |-;have HGR:=hY LJ;have hgw:w.heap.size+1+1<g:=aa
 clear hg LJ aS;have nQ:=Ym.lt
 (try rw [<-HGR.u])
 have ie:=hY (HBS.u.ext BG);go_wp2_with fail;refine (wW Ab nb cb0 bs _ ie.u hn).mono ?_;rintro e w2 ⟨N,I,B,A,len,cap,os,n,E,l,c,es,mode,rfl,⟨hlen,ZG⟩,Ah,atX,Sv,Yn,qz,bH⟩;have oF:=(Ym.ext bH).lt;have HS:=hY bH;have Zk:=hY (Rd.own Sv);have HOE:=hY (Rd.own Yn);have Gc:Hid (RO w2 g w2.heap.size A len os):=RO.own Sv Ym.lt (lI _) hlen;have HL3:Hid (∀(W:World) (s9:Nat),Ext ((w2.alloc (cO #[iI N,iI I,iI B,.slice A len cap] 26)).alloc (cO #[iI n,.slice E l c] 42)) W->w2.heap.size+1<s9->LZ w W g w2.heap.size (w2.heap.size+1) s9 N I B A len cap n E l c):=fun W s9 hx hs=>
  ⟨((((hR0.ext bH).alloc _).alloc _).ext hx),((((hR1.ext bH).alloc _).alloc _).ext hx),((((hR2.ext bH).alloc _).alloc _).ext hx),(((ay.new _ _ _).alloc _).ext hx),((ay.newAt ag).ext hx),((((Ym.ext bH).alloc _).alloc _).ext hx),((((BG.trans bH).alloc _).alloc _).trans hx),aa,os,Gc.u.ext (lI _) ((((xZ w2).alloc _).alloc _).trans hx)⟩
 have dL:Hid (ay ((w2.alloc (cO #[iI N,iI I,iI B,.slice A len cap] 26)).alloc (cO #[iI n,.slice E l c] 42)) w2.heap.size 26 #[iI N,iI I,iI B,.slice A len cap]):=(ay.new _ _ _).alloc _;have lX:Hid (ay ((w2.alloc (cO #[iI N,iI I,iI B,.slice A len cap] 26)).alloc (cO #[iI n,.slice E l c] 42)) (w2.heap.size+1) 42 #[iI n,.slice E l c]):=ay.newAt ag;have iM:Hid (Ext w ((w2.alloc (cO #[iI N,iI I,iI B,.slice A len cap] 26)).alloc (cO #[iI n,.slice E l c] 42))):=((BG.trans bH).alloc _).alloc _;have sr:Hid (Rd ((w2.alloc (cO #[iI N,iI I,iI B,.slice A len cap] 26)).alloc (cO #[iI n,.slice E l c] 42)) ((w2.alloc (cO #[iI N,iI I,iI B,.slice A len cap] 26)).alloc (cO #[iI n,.slice E l c] 42)).heap.size 8 A len (aI os)/\Rd ((w2.alloc (cO #[iI N,iI I,iI B,.slice A len cap] 26)).alloc (cO #[iI n,.slice E l c] 42)) ((w2.alloc (cO #[iI N,iI I,iI B,.slice A len cap] 26)).alloc (cO #[iI n,.slice E l c] 42)).heap.size 2 E l (bD es)):=⟨Zk.u.ext (((xZ _).alloc _).alloc _),HOE.u.ext (((xZ _).alloc _).alloc _)⟩;have pq:((w2.alloc (cO #[iI N,iI I,iI B,.slice A len cap] 26)).alloc (cO #[iI n,.slice E l c] 42)).heap.size=w2.heap.size+1+1:=ag
 clear Gc Sv Yn qz bH Ym nQ oF hR0 hR1 hR2 BG HS Zk HOE ie;go_upto_region 3 with fail;generalize ((w2.alloc (cO #[iI N,iI I,iI B,.slice A len cap] 26)).alloc (cO #[iI n,.slice E l c] 42))=w3 at*
 obtain ⟨s6,ou⟩:=ex (w2.heap.size);rw [ou] at HL3 dL lX pq
 try rw [ou]
 obtain ⟨s7,hs7⟩:=ex (s6+1);rw [hs7] at HL3 lX pq
 try rw [hs7]
 have agQ:=hY hs7;clear ou hs7;obtain ⟨⟨c0,c1,c2,c3⟩,-⟩:=aB dL.u;obtain ⟨⟨d0,d1⟩,-⟩:=fu lX.u;have dB:=hY (sr.u.1.len Oq.aE aa);have agR:=hY (sr.u.2.len Ed.aE aa);have HCO:Hid (Calls prog 26 #[.agg #[iI N,iI I,iI B,.slice A len cap],.agg #[iI n,.slice E l c],iI mode] w3 fun e w'=>(∃r,nR ⟨N,I,B,os⟩ ⟨n,es⟩ mode r/\acd w3 r e w')/\Ext w3 w'):=by
  have h9:=uC A cap ⟨N,I,B,os⟩ (.agg #[iI n,.slice E l c]) ⟨n,es⟩ mode w3 (by show Rd _ _ 8 A os.length _;rw [dB.u];exact sr.u.1) (by show os.length<=_;rw [dB.u];omega) ⟨E,c,by show _=Value.agg #[_,.slice E es.length c];rw [agR.u],by show Rd _ _ 2 E es.length _;rw [agR.u];exact sr.u.2⟩ (by show es.length<=_;rw [agR.u];omega);have e9:(⟨N,I,B,os⟩:Rt).ops.length=len:=dB.u;rw [e9] at h9
  exact h9
 go_wp2_with fail;refine HCO.u.mono ?_;rintro e w4 ⟨⟨r,Rg,hce⟩,fe⟩;have OV:=fe.size
 cases r with
 |none=>
  unfold acd at hce;simp only at hce;subst hce;have HL:Hid (LZ w (w4.alloc (cO jG 29)) g s6 s7 w4.heap.size N I B A len cap n E l c):=HL3.u _ _ (fe.alloc _) aa;have HB:Hid (ay (w4.alloc (cO jG 29)) w4.heap.size 29 jG):=ay.new _ _ _;have HR:Hid (eS (w4.alloc (cO jG 29)) none 0 none 0 none 0 [] [] []):=⟨⟨rfl,fun h0=>absurd h0 aa⟩,fun b o e=>dQ,⟨rfl,fun h0=>absurd h0 aa⟩,fun b o e=>dQ,⟨rfl,fun h0=>absurd h0 aa⟩,fun b o e=>dQ⟩;have HF:Hid ((ai []).length<=950000):=by unfold Hid;simp [ai]
  have HN:Hid ((0:Nat)<=50000000000/\(0:Nat)<=8/\(0:Nat)<=8/\(0:Nat)<=0/\(0:Nat)<=0):=bZ
  clear Rg fe HCO HL3 dL lX iM sr c0 c1 c2 c3 d0 d1;go_upto_region 5 with fail;generalize w4.heap.size=s9 at*
  generalize w4.alloc (cO jG 29)=WW at*
  exact nL
 |some z=>
  obtain ⟨hzn,hzo,Bj,hzf⟩:=Rg.bd;have hfw:=Rg.few ZG;clear c0 c1 c2 c3 d0 d1;unfold acd at hce;simp only at hce;obtain ⟨A1,A2,A3,c1,c2,c3,b1,rfl,eF,ep,jm,-,-⟩:=hce;obtain ⟨cn,cb,xs,ps,qs⟩:=z;simp only at hzn hzo Bj hzf hfw eF ep jm |-;have HFW:=hY hfw;clear hfw;obtain ⟨nn,hnn⟩:∃nn:Nat,cn=(nn:Int):=⟨cn.toNat,aa⟩;subst hnn;obtain ⟨l1,nQ⟩:=ex (xs.length);obtain ⟨l2,oF⟩:=ex (ps.length);obtain ⟨l3,Gy⟩:=ex (qs.length);rw [nQ] at eF hzo |-;rw [oF] at ep Bj |-;rw [Gy] at jm hzf |-;have HL:Hid (LZ w (w4.alloc (cO #[iI (nn:Int),iI cb,.slice A1 l1 c1,.slice A2 l2 c2,.slice A3 l3 c3] 29)) g s6 s7 w4.heap.size N I B A len cap n E l c):=HL3.u _ _ (fe.alloc _) aa;have HB:Hid (ay (w4.alloc (cO #[iI (nn:Int),iI cb,.slice A1 l1 c1,.slice A2 l2 c2,.slice A3 l3 c3] 29)) w4.heap.size 29 #[iI (nn:Int),iI cb,.slice A1 l1 c1,.slice A2 l2 c2,.slice A3 l3 c3]):=ay.new _ _ _;have fi:=HL.u.gs;have QX:Hid ((w4.alloc (cO #[iI (nn:Int),iI cb,.slice A1 l1 c1,.slice A2 l2 c2,.slice A3 l3 c3] 29)).ownsRow (s6+1) 56 8 (.slice A1 l1 c1) l1 (aI xs)):=(aC eF (oM agQ.u)).alloc _;have rP:Hid ((w4.alloc (cO #[iI (nn:Int),iI cb,.slice A1 l1 c1,.slice A2 l2 c2,.slice A3 l3 c3] 29)).ownsRow (s6+1) 3 1 (.slice A2 l2 c2) l2 (aG ps)):=(aC ep (oM agQ.u)).alloc _;have Ph:Hid ((w4.alloc (cO #[iI (nn:Int),iI cb,.slice A1 l1 c1,.slice A2 l2 c2,.slice A3 l3 c3] 29)).ownsRow (s6+1) 3 1 (.slice A3 l3 c3) l3 (aG qs)):=(aC jm (oM agQ.u)).alloc _;have HZ:Hid ((1<=nn/\nn<=4)/\l1<=40000000000/\l2<=4/\l3<=4/\xs.length=l1):=⟨aa,hzo,Bj,hzf,nQ⟩;clear Rg fe HCO HL3 dL lX iM sr hzn hzo Bj hzf nQ oF Gy eF ep jm fi pq OV;go_upto_region 6 with fail;generalize w4.alloc (cO #[iI (nn:Int),iI cb,.slice A1 l1 c1,.slice A2 l2 c2,.slice A3 l3 c3] 29)=W4 at*
  generalize w4.heap.size=s9 at*
  go_wp2_with fail;refine (aU g 8 _ HL.u.cu aa).mono ?_;rintro e w5 ⟨x,rfl,⟨cH,aS,-⟩,jV,gx⟩;have fi:=HL.u.gs;have Ma:=hY (HL.u.grown gx jV);have vB:Hid (ay w5 s9 29 #[iI (nn:Int),iI cb,.slice A1 l1 c1,.slice A2 l2 c2,.slice A3 l3 c3]):=HB.u.grown gx (fun k hk=>aw);have Kq:=hY (cT QX.u gx (fun k hk=>aw));have KC:=hY (cT rP.u gx (fun k hk=>aw));have Kk:=hY (cT Ph.u gx (fun k hk=>aw));have Nz:=hY fi;have zW:=aS ae;have PG:=hY vB.u.lt;clear HL HB QX rP Ph gx jV aS fi;rcases (aa:x=0\/x=1\/x=2\/x=3\/4<=x) with rfl|rfl|rfl|rfl|h4
  ·skip
   by_cases MW:l1=0
   ·subst MW;obtain ⟨⟨y0,y1,y2,y3,y4⟩,-⟩:=bG vB.u;have HR:Hid (eS w5 A1 0 A2 l2 A3 l3 xs ps qs):=⟨Rd.own Kq.u,TB.own Kq.u,Rd.own KC.u,TB.own KC.u,Rd.own Kk.u,TB.own Kk.u⟩;have HF:Hid ((ai xs).length<=950000):=kA
    have HN:Hid (0<=50000000000/\l2<=8/\l3<=8/\l2<=c2/\l3<=c3):=uK
    have HL:=Ma;have HB:=vB;clear Kq KC Kk Ma vB HZ Nz PG;go_upto_region 17 with fail;clear y0 y1 y2 y3 y4;obtain ⟨WW,rfl⟩:=ey (w5)
    exact nL
   ·have aqU:(l1:Int)>0:=aa
    have axF:decide ((l1:Int)>0)=true:=sU aqU
    obtain ⟨⟨y0,y1,y2,y3,y4⟩,-⟩:=bG vB.u;go_wp2_with fail;refine (IJ g l1 _ Ma.u.cu (oM HZ.u)).mono ?_;rintro e w6 ⟨k,rfl,⟨rE,eM,-⟩,xp,ln⟩;obtain ⟨kk,rfl⟩:=lD rE;have fi:=Nz.u;have ZD:Hid (kk<l1):=by have:=eM aa;unfold Hid;omega
    have OK:=hY (Ma.u.grown ln xp);have dL:Hid (ay w6 s9 29 #[iI (nn:Int),iI cb,.slice A1 l1 c1,.slice A2 l2 c2,.slice A3 l3 c3]):=vB.u.grown ln (fun k hk=>aw);have yK:=hY (cT Kq.u ln (fun k hk=>aw));have mr:=hY (cT KC.u ln (fun k hk=>aw));have MR:=hY (cT Kk.u ln (fun k hk=>aw));have Rw:=mR yK.u;obtain ⟨b,rfl,-,Kp,-⟩:=Rs yK.u HZ.u.2.2.2.2 ZD.u;have FD:Hid (s6+1<=b):=Kp;clear y0 y1 y2 y3 y4 rE eM xp ln Ma vB Kq KC Kk fi Kp;have aqS:(0:Int)<=(kk:Int):=aa
    have Vu:(kk:Int)<=(c1:Int):=oM ZD.u
    have WT:(0:Int)<=(kk:Int)+1:=aa
    have ajF:(kk:Int)+1<=(l1:Int):=oM ZD.u
    have ajG:IntKind.i64.wrap ((kk:Int)+1)=(kk:Int)+1:=lH _ (oN ZD.u HZ.u);have ajH:wrap64 ((kk:Int)+1)=(kk:Int)+1:=by have:=ZD.u;have:=HZ.u;unfold wrap64;omega
    go_upto_region 10 with fail;clear Rw;refine dm (S:=fun _=>True) af (trivial) (fun ay4=>?_);refine tq 0 ?_;refine tq 2 ?_;refine tq 4 ?_;refine tq 6 ?_;refine tq 7 ?_;obtain ⟨W0,Kw⟩:=ey (w6.drew);have yI:=hY (OK.u.ext (xZ w6).drew);have eG:=hY (dL.u.ext (xZ w6).drew);have zw:=hY (aq yK.u (xZ w6).drew);have rA:=hY (aq mr.u (xZ w6).drew);have zx:=hY (aq MR.u (xZ w6).drew);rw [<-Kw] at yI eG zw rA zx |-;clear Kw OK dL yK mr MR ay4;refine o2 1 5 (fun K hK=>?_) fun K hK=>?_
    ·skip;obtain ⟨⟨y0,y1,y2,y3,y4⟩,-⟩:=bG eG.u;go_simp;refine ov hK (trivial) fun ay4=>?_
     clear y0 y1 y2 y3 y4;refine tq 3 ?_;refine o1 5 fun K hK=>?_
     obtain ⟨⟨y0,y1,y2,y3,y4⟩,-⟩:=bG eG.u;go_simp;refine ov hK (trivial) fun ay4=>?_
     clear y0 y1 y2 y3 y4;refine tq 8 ?_
     exact Fm
    ·skip;obtain ⟨⟨y0,y1,y2,y3,y4⟩,-⟩:=bG eG.u;go_simp;refine ov hK (trivial) fun ay4=>?_
     clear y0 y1 y2 y3 y4;refine tq 8 ?_;refine o1 1 fun K hK=>?_
     obtain ⟨⟨y0,y1,y2,y3,y4⟩,-⟩:=bG eG.u;go_simp;refine ov hK (trivial) fun ay4=>?_
     clear y0 y1 y2 y3 y4;refine tq 3 ?_
     exact Fm
  ·skip;have aqV:=HZ.u.1;obtain ⟨⟨y0,y1,y2,y3,y4⟩,-⟩:=bG vB.u;go_wp2_with fail;refine (qm g nn aqV _ Ma.u.cu).mono ?_;rintro e w6 ⟨b,c9,rfl,hb,hI6,xp,ln⟩;have fi:=Nz.u;obtain ⟨ys,-,hoy⟩:=hI6.own (B:=g+1) (oM PG.u);have OK:=hY (Ma.u.grown ln xp);have dL:Hid (ay w6 s9 29 #[iI (nn:Int),iI cb,.slice A1 l1 c1,.slice A2 l2 c2,.slice A3 l3 c3]):=vB.u.grown ln (fun k hk=>aw);have yK:=hY (cT Kq.u ln (fun k hk=>aw));have mr:=hY (cT KC.u ln (fun k hk=>aw));have MR:=hY hoy;have HR:Hid (eS (w6.setCell (aA s9 4) (.slice (some ⟨b,0,none⟩) nn c9)) A1 l1 A2 l2 (some ⟨b,0,none⟩) nn xs ps ys):=eS.set ⟨Rd.own yK.u,TB.own yK.u,Rd.own mr.u,TB.own mr.u,Rd.own MR.u,TB.own MR.u⟩ dL.u ae ae 4 _;have HL:Hid (LZ w (w6.setCell (aA s9 4) (.slice (some ⟨b,0,none⟩) nn c9)) g s6 s7 s9 N I B A len cap n E l c):=OK.u.acp 4 _;have HB:Hid (ay (w6.setCell (aA s9 4) (.slice (some ⟨b,0,none⟩) nn c9)) s9 29 #[iI (nn:Int),iI cb,.slice A1 l1 c1,.slice A2 l2 c2,.slice (some ⟨b,0,none⟩) nn c9]):=dL.u.ba 4 _;have HF:Hid ((ai xs).length<=950000):=kA
   have HN:Hid (l1<=50000000000/\l2<=8/\nn<=8/\l2<=c2/\nn<=c9):=oD
   clear y0 y1 y2 y3 y4 Kq KC Kk Ma vB yK mr MR OK HZ Nz PG hI6 hoy xp ln fi hb;obtain ⟨⟨y0,y1,y2,y3,y4⟩,z0,z1,z2,z3,z4⟩:=bG dL.u;go_upto_region 17 with fail;clear y0 y1 y2 y3 y4 z0 z1 z2 z3 z4 dL;generalize w6.setCell (aA s9 4) (.slice (some ⟨b,0,none⟩) nn c9)=WW at*
   exact nL
  ·skip;go_upto_region 14 with fail;refine dm (S:=(fun W=>W.cell? (aA s9 0)=some (iI (nn:Int)))) af ((bG vB.u.drew).1.1) (fun ay4=>?_);refine tq 0 ?_;refine tq 2 ?_;refine tq 3 ?_;refine tq 4 ?_;obtain ⟨W0,Kw⟩:=ey (w5.drew);have yI:=hY (Ma.u.ext (xZ w5).drew);have eG:=hY (vB.u.ext (xZ w5).drew);have zw:=hY (aq Kq.u (xZ w5).drew);have rA:=hY (aq KC.u (xZ w5).drew);have zx:=hY (aq Kk.u (xZ w5).drew);rw [<-Kw] at yI eG zw rA zx |-;clear Kw Ma vB Kq KC Kk ay4;refine o2 1 5 (fun K hK=>?_) fun K hK=>?_
   ·skip;obtain ⟨⟨y0,y1,y2,y3,y4⟩,-⟩:=bG eG.u;go_simp;refine ov hK (y0) fun ay4=>?_
    clear y0 y1 y2 y3 y4;refine o1 5 fun K hK=>?_
    go_simp;refine (vT g nn HZ.u.1 _ yI.u.cu).mono ?_;rintro e w6 ⟨x,rfl,xp,ln⟩;have fi:=Nz.u;have OK:=hY (yI.u.grown ln xp);have dL:Hid (ay w6 s9 29 #[iI (nn:Int),iI cb,.slice A1 l1 c1,.slice A2 l2 c2,.slice A3 l3 c3]):=eG.u.grown ln (fun k hk=>aw);have yK:=hY (cT zw.u ln (fun k hk=>aw));have mr:=hY (cT rA.u ln (fun k hk=>aw));have MR:=hY (cT zx.u ln (fun k hk=>aw));have agP:=hY dL.u.lt;clear xp ln yI eG zw rA zx fi;refine ov hK ((bG dL.u).1.1) fun ay4=>?_
    refine tq 6 ?_
    exact Fo
   ·skip;go_simp;refine (vT g nn HZ.u.1 _ yI.u.cu).mono ?_;rintro e w6 ⟨x,rfl,xp,ln⟩;have fi:=Nz.u;have OK:=hY (yI.u.grown ln xp);have dL:Hid (ay w6 s9 29 #[iI (nn:Int),iI cb,.slice A1 l1 c1,.slice A2 l2 c2,.slice A3 l3 c3]):=eG.u.grown ln (fun k hk=>aw);have yK:=hY (cT zw.u ln (fun k hk=>aw));have mr:=hY (cT rA.u ln (fun k hk=>aw));have MR:=hY (cT zx.u ln (fun k hk=>aw));have agP:=hY dL.u.lt;clear xp ln yI eG zw rA zx fi;refine ov hK ((bG dL.u).1.1) fun ay4=>?_
    refine tq 6 ?_;refine o2 1 7 (fun K hK=>?_) fun K hK=>?_
    ·skip;obtain ⟨⟨y0,y1,y2,y3,y4⟩,-⟩:=bG dL.u;go_simp;refine ov hK (y0) fun ay4=>?_
     clear y0 y1 y2 y3 y4
     exact Fo
    ·skip;go_simp;refine ov hK ((bG (dL.u.alloc _)).1.1) fun ay4=>?_
     refine o1 1 fun K hK=>?_
     obtain ⟨⟨y0,y1,y2,y3,y4⟩,-⟩:=bG (dL.u.alloc (cO #[iI 1,iI x.k,iI x.a,iI x.b,iI x.c,iI 0,iI 0,iI 0] 56));go_simp;refine ov hK (y0) fun ay4=>?_
     clear y0 y1 y2 y3 y4
     exact adK
  ·skip;go_wp2_with fail;refine (Pe g _ Ma.u.cu).mono ?_;rintro e w6 ⟨Az,lz,cz,zs,rfl,hlz,hoz,xp,ln⟩;have fi:=Nz.u;have OK:=hY (Ma.u.grown ln xp);have dL:Hid (ay w6 s9 29 #[iI (nn:Int),iI cb,.slice A1 l1 c1,.slice A2 l2 c2,.slice A3 l3 c3]):=vB.u.grown ln (fun k hk=>aw);have yK:=hY (cT Kq.u ln (fun k hk=>aw));have mr:=hY hoz;have MR:=hY (cT Kk.u ln (fun k hk=>aw));have HR:Hid (eS (w6.setCell (aA s9 3) (.slice Az lz cz)) A1 l1 Az lz A3 l3 xs zs qs):=eS.set ⟨Rd.own yK.u,TB.own yK.u,Rd.own mr.u,TB.own mr.u,Rd.own MR.u,TB.own MR.u⟩ dL.u ae ae 3 _;have HL:Hid (LZ w (w6.setCell (aA s9 3) (.slice Az lz cz)) g s6 s7 s9 N I B A len cap n E l c):=OK.u.acp 3 _;have HB:Hid (ay (w6.setCell (aA s9 3) (.slice Az lz cz)) s9 29 #[iI (nn:Int),iI cb,.slice A1 l1 c1,.slice Az lz cz,.slice A3 l3 c3]):=dL.u.ba 3 _;have HF:Hid ((ai xs).length<=950000):=kA
   have HN:Hid (l1<=50000000000/\lz<=8/\l3<=8/\lz<=cz/\l3<=c3):=oD
   clear Kq KC Kk Ma vB yK mr MR OK HZ Nz PG hlz hoz xp ln fi;obtain ⟨⟨y0,y1,y2,y3,y4⟩,z0,z1,z2,z3,z4⟩:=bG dL.u;go_upto_region 17 with fail;clear y0 y1 y2 y3 y4 z0 z1 z2 z3 z4 dL;generalize w6.setCell (aA s9 3) (.slice Az lz cz)=WW at*
   exact nL
  ·skip;have v0:(x==0)=false:=eC
   have v1:(x==1)=false:=eC
   have v2:(x==2)=false:=eC
   have v3:(x==3)=false:=eC
   have HR:Hid (eS w5 A1 l1 A2 l2 A3 l3 xs ps qs):=⟨Rd.own Kq.u,TB.own Kq.u,Rd.own KC.u,TB.own KC.u,Rd.own Kk.u,TB.own Kk.u⟩;have HF:Hid ((ai xs).length<=950000):=kA
   have HN:Hid (l1<=50000000000/\l2<=8/\l3<=8/\l2<=c2/\l3<=c3):=uK
   have HL:=Ma;have HB:=vB;clear Kq KC Kk Ma vB HZ Nz PG;go_upto_region 17 with fail;obtain ⟨WW,rfl⟩:=ey (w5)
   exact nL
end Go.Proofs.YtiajdbllccmokaaGreatDoor
