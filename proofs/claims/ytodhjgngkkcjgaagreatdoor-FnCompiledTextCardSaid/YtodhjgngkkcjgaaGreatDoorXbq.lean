import Derived.Test.YtodhjgngkkcjgaaGreatDoorXbp
import Derived.Test.YtodhjgngkkcjgaaGreatDoorXbk
import Derived.Laws.IdiomCopy
namespace Go.Proofs.YtodhjgngkkcjgaaGreatDoor
open Go.ChangeShapes Go.WideShapes Go.ChangeAt Go.RowKit Go.Deep Go.Proofs.Tryz
set_option linter.unusedVariables false
set_option linter.unusedSimpArgs false
set_option maxRecDepth 100000
set_option maxHeartbeats 16000000
def TB (W:World) (T:Nat) (A:OA):Prop:=∀b o,A=some ⟨b,o,none⟩->∃cs,au W b T cs
theorem TB.own {W:World} {B e s n c:Nat} {A:OA} {ys:List Value} (h:W.ownsRow B e s (.slice A n c) n ys):TB W e A:=fun b o e1=>by
 subst e1;rcases h.2 with ⟨h0,hn⟩|⟨g,jM,cur,hv,hB,hc,-⟩
 ·cases h0
 ·injection hv with e1;injection e1 with e1;injection e1 with e1;subst e1
  exact ⟨cur,hc⟩
theorem TB.ext {W W':World} {T:Nat} {A:OA} (h:TB W T A) (hx:Ext W W'):TB W' T A:=fun b o e=>by
 obtain ⟨cs,hb⟩:=h b o e
 exact ⟨cs,hb.ext hx⟩
theorem aft {W:World} {q T T' s n i:Nat} {A:OA} {ys:List Value} {cs:Array Value} (h:Rd W W.heap.size s A n ys) (ht:TB W T A) (hb:au W q T' cs) (he:T≠T') (u:Value):Rd (W.setCell (aA q i) u) (W.setCell (aA q i) u).heap.size s A n ys/\TB (W.setCell (aA q i) u) T A:=by
 have hne:∀b o,A=some ⟨b,o,none⟩->b≠q:=fun b o e1 e2=>by
  obtain ⟨ds,hd⟩:=ht b o e1;subst e2;unfold au at hd hb;rw [hd] at hb;simp only [iG,Obj.cells.injEq] at hb
  exact he hb.2.1
 have hs:(W.setCell (aA q i) u).heap.size=W.heap.size:=ag
 refine ⟨⟨h.1,fun hn=>?_⟩,fun b o e1=>?_⟩
 ·obtain ⟨b,o,e1,ky,hc⟩:=h.2 hn;rw [hs]
  exact ⟨b,o,e1,ky,fun j v hv=>(uB (a:=⟨b,o+j,none⟩) (pa _ ⟨q,i,none⟩ u b (hne b o e1))).trans (hc j v hv)⟩
 ·obtain ⟨ds,hd⟩:=ht b o e1
  exact ⟨ds,hd.cB (p:=(aA q i)) (hne b o e1) u⟩
structure fa (W:World) (A1:OA) (l1:Nat) (A2:OA) (l2:Nat) (A3:OA) (l3:Nat) (xs:List Oq) (ps qs:List Int):Prop where
 a:Rd W W.heap.size 8 A1 l1 (aJ xs)
 ta:TB W 41 A1
 b:Rd W W.heap.size 1 A2 l2 (aD ps)
 tb:TB W 3 A2
 c:Rd W W.heap.size 1 A3 l3 (aD qs)
 tc:TB W 3 A3
theorem Ey {w:World} {b:Nat}:∀(vs:List Value) (o:Nat) (w':World),w.grownBy w' (some b)->w.grownBy (w'.setCells b o vs) (some b)
 |[],_,_,h=>h
 |v::r,o,w',h=>Ey r (o+1) _ (cF h o v)
theorem Cy {b T:Nat}:∀(vs:List Value) (o:Nat) (w:World) (cs:Array Value),au w b T cs->∃ds,au (w.setCells b o vs) b T ds
 |[],_,_,cs,h=>⟨cs,h⟩
 |v::r,o,_,_,h=>Cy r (o+1) _ _ (h.aU o v)
theorem zx {b:Nat}:∀(vs:List Value) (o:Nat) (w:World),(w.setCells b o vs).heap.size=w.heap.size
 |[],_,_=>rfl
 |v::r,o,w=>by rw [World.setCells,zx r];simp
theorem VD {xs:List Oq}:∀u∈aJ xs,u.oneCell'=true:=by
 intro u hu;unfold aJ at hu;rw [vN] at hu;obtain ⟨o,-,ho⟩:=hu;unfold Oq.cells at ho;simp only [jw,TM,or_false] at ho;rcases ho with rfl|rfl|rfl|rfl|rfl|rfl|rfl|rfl<;>rfl
theorem Yr {W:World} {B l c:Nat} {A:OA} {xs:List Oq} (h:W.ownsRow B 41 8 (.slice A l c) l (aJ xs)) (hx:xs.length=l) {k:Nat} (hk:k<l):
  ∃b,A=some ⟨b,0,none⟩/\l<=c/\B<=b/\(aJ (xs.drop (k+1))).length=(l - (k+1))*8/\
   (∀j u,(aJ (xs.drop (k+1)))[j]?=some u->W.cell? (aA b ((k+1)*8+j))=some u)/\
   (∀j,j<(aJ (xs.drop (k+1))).length->(W.cell? (aA b (0+k*8+j))).isSome=true/\W.frozen? (aA b (0+k*8+j))=false)/\
   Rd (W.setCells b (0+k*8) (aJ (xs.drop (k+1)))) (W.setCells b (0+k*8) (aJ (xs.drop (k+1)))).heap.size 8 (some ⟨b,0,none⟩) (k+(l - (k+1))) (aJ (xs.take k++xs.drop (k+1)))/\
   TB (W.setCells b (0+k*8) (aJ (xs.drop (k+1)))) 41 (some ⟨b,0,none⟩)/\
   W.grownBy (W.setCells b (0+k*8) (aJ (xs.drop (k+1)))) (some b):=by
 obtain ⟨b,rfl,hlc⟩:=ny h aa;obtain ⟨hB,hP⟩:=abm h rfl [];obtain ⟨cs,hb⟩:=TB.own h b 0 rfl;have hr:=Rd.own h;obtain ⟨b',o',e1,ky,hc⟩:=hr.2 aa;injection e1 with e1;injection e1 with e1 e2;subst e1;subst e2;have qw:(aJ (xs.drop (k+1))).length=(l - (k+1))*8:=by
  unfold aJ;rw [gB Oq.aG,lU,hx]
 have ba:∀m,m<=l->(aJ (xs.take m)).length=m*8:=fun m hm=>by
  unfold aJ;rw [gB Oq.aG,lT,hx];congr 1;omega
 have Yu:∀m,aJ xs=aJ (xs.take m)++aJ (xs.drop m):=fun m=>by
  unfold aJ;rw [<-lR,yj]
 have hrd:∀j u,(aJ (xs.drop (k+1)))[j]?=some u->W.cell? (aA b ((k+1)*8+j))=some u:=fun j u hu=>by
  have h9:=hc ((k+1)*8+j) u (by
   rw [Yu (k+1),uS (by rw [ba _ aa];omega),ba _ aa];rw [show (k+1)*8+j - (k+1)*8=j by omega]
   exact hu)
  rwa [lM] at h9
 have Ys:∀j,j<(aJ (xs.drop (k+1))).length->(W.cell? (aA b (0+k*8+j))).isSome=true/\W.frozen? (aA b (0+k*8+j))=false:=fun j hj=>by
  refine ⟨?_,hP.frozen _⟩;obtain ⟨u,hu⟩:=hP.cell (j:=0+k*8+j) (by rw [qw] at hj;omega);rw [hu];rfl
 refine ⟨b,rfl,hlc,hB,qw,hrd,Ys,⟨?_,fun _=>⟨b,0,rfl,?_,fun j v hv=>?_⟩⟩,fun b2 o2 e2=>?_,Ey _ _ _ (kO W (some b))⟩
 ·unfold aJ;rw [gB Oq.aG,lA,lT,lU,hx];congr 1;omega
 ·rw [zx]
  exact ky
 ·have e8:aJ (xs.take k++xs.drop (k+1))=aJ (xs.take k)++aJ (xs.drop (k+1)):=by
   unfold aJ;rw [lR]
  rw [e8] at hv
  by_cases hj:j<k*8
  ·rw [oY (by rw [ba _ aa];exact hj)] at hv;rw [World.cell?_setCells_out b _ _ _ _ (fun _ _=>Or.inl (by show 0+j<0+k*8;omega))];refine hc j v ?_;rw [Yu k,oY (by rw [ba _ aa];exact hj)]
   exact hv
  ·rw [uS (by rw [ba _ aa];omega),ba _ aa] at hv;obtain ⟨hj2,hv2⟩:=gu.1 hv;have h9:=World.cell?_setCells_in b (aJ (xs.drop (k+1))) (0+k*8) W (fun i hi=>(Ys i hi).1) (j - k*8) hj2;rw [show 0+k*8+(j - k*8)=0+j by omega,hv2] at h9
   exact h9
 ·injection e2 with e2;injection e2 with e2 e3;subst e2
  exact Cy _ _ _ _ hb
theorem pn {w:World} {B e size n c:Nat} {A:OA} {xs:List Value} (h:w.ownsRow B e size (.slice A n c) n xs):n<=c:=by
 rcases DF n with h0|h0
 ·omega
 ·obtain ⟨g,_,hc⟩:=ny h h0
  exact hc
theorem kF {w w':World} {B B' e e' s s' n m:Nat} {v u:Value} {xs ys:List Value} (h:w.ownsRow B e s v n xs) (ho:w.ownsRow B' e' s' u m ys) (he:e≠e') (hg:w.grownBy w' u.ownBlock):w'.ownsRow B e s v n xs:=by
 refine h.kept hg ?_;rcases dh h ho he with h1|h1
 ·exact .inl h1
 ·exact .inr h1
theorem amW {k l:Nat} (h:k<l) (hl:l<=40000000000):k+(l - (k+1))<=50000000000:=aa
theorem ati {c k l:Nat} (h:k<l) (hc:l<=c) (e:c=k+1):l - (k+1)=0:=aa
theorem aiB {W:World} {ops:Array Oper} {o:Oper} {a:Act} {K:Act->World->Prop} {Q:Exit->Act->World->Prop} {E:Prop} (fX:o.guard=none) (s x:Operand)
  (ho:aO o s x 24) {B b l c k:Nat} {xs:List Oq} (h:W.ownsRow B 41 8 (.slice (some ⟨b,0,none⟩) l c) l (aJ xs)) (hx:xs.length=l) (hk:k<l)
  (hs:a.eval s=.slice (some ⟨b,0,none⟩) k c) (C:OA) (d:Nat) (he:a.eval x=.slice C (l - (k+1)) d) (hC:C=if c=k+1 then some ⟨b,0,none⟩ else some ⟨b,(k+1)*8,none⟩)
  (hK:∀w',Rd w' w'.heap.size 8 (some ⟨b,0,none⟩) (k+(l - (k+1))) (aJ (xs.take k++xs.drop (k+1)))->TB w' 41 (some ⟨b,0,none⟩)->W.grownBy w' (some b)->K (a.put o.dst (.slice (some ⟨b,0,none⟩) (k+(l - (k+1))) c)) w'):
  if Region.wanted o (yielded ops a.tmps)=true then Oper.wp prog o a W K Q else E:=by
 obtain ⟨b',e1,hlc,hB,qw,hrd,Ys,h1,h2,h3⟩:=Yr h hx hk;injection e1 with e1;injection e1 with e1;subst e1;obtain ⟨ad,rfl,had⟩:∃ad,C=some ad/\(l - (k+1)=0\/ad=⟨b,(k+1)*8,none⟩):=by
  rw [hC];split
  ·exact ⟨_,rfl,.inl aa⟩
  ·exact ⟨_,rfl,.inr rfl⟩
 obtain ⟨i0,hi,fH,iV,kz⟩:=jH Ug;refine step_append_room fX s x _ ho 41 i0 8 underlying24 hi iV b 0 k c hs ad (l - (k+1)) d (aJ (xs.drop (k+1))) he qw ?_ VD aa Ys (hK _ h1 h2 h3);intro j u hu;rcases had with h0|rfl
 ·have hj:=(gu.1 hu).1;omega
 ·rw [Addr.add_lit]
  exact hrd j u hu
section
variable {W W':World} {A1 A2 A3:OA} {l1 l2 l3 q T:Nat} {xs:List Oq} {ps qs:List Int}
theorem fa.ext (h:fa W A1 l1 A2 l2 A3 l3 xs ps qs) (hx:Ext W W'):fa W' A1 l1 A2 l2 A3 l3 xs ps qs:=⟨h.a.ext hx,h.ta.ext hx,h.b.ext hx,h.tb.ext hx,h.c.ext hx,h.tc.ext hx⟩
theorem fa.set {cs:Array Value} (h:fa W A1 l1 A2 l2 A3 l3 xs ps qs) (hb:au W q T cs) (h1:41≠T) (h2:3≠T) (i:Nat) (u:Value):fa (W.setCell (aA q i) u) A1 l1 A2 l2 A3 l3 xs ps qs:=by
 obtain ⟨r1,t1⟩:=aft (i:=i) h.a h.ta hb h1 u;obtain ⟨r2,t2⟩:=aft (i:=i) h.b h.tb hb h2 u;obtain ⟨r3,t3⟩:=aft (i:=i) h.c h.tc hb h2 u
 exact ⟨r1,t1,r2,t2,r3,t3⟩
theorem fa.nM {z0 z1 z2 z3 z4:Value} (h:fa W A1 l1 A2 l2 A3 l3 xs ps qs) (hb:au W q T #[z0,z1,z2,z3,z4]) (h1:41≠T) (h2:3≠T) (a b c d e:Value):fa (nQ W q a b c d e) A1 l1 A2 l2 A3 l3 xs ps qs:=
 (((((h.set hb h1 h2 0 a).set (hb.aU 0 a) h1 h2 1 b).set ((hb.aU 0 a).aU 1 b) h1 h2 2 c).set (((hb.aU 0 a).aU 1 b).aU 2 c) h1 h2 3 d).set ((((hb.aU 0 a).aU 1 b).aU 2 c).aU 3 d) h1 h2 4 e)
theorem fa.bR {z0 z1 z2 z3:Value} (h:fa W A1 l1 A2 l2 A3 l3 xs ps qs) (hb:au W q T #[z0,z1,z2,z3]) (h1:41≠T) (h2:3≠T) (a b c d:Value):fa (bR W q a b c d) A1 l1 A2 l2 A3 l3 xs ps qs:=
 ((((h.set hb h1 h2 0 a).set (hb.aU 0 a) h1 h2 1 b).set ((hb.aU 0 a).aU 1 b) h1 h2 2 c).set (((hb.aU 0 a).aU 1 b).aU 2 c) h1 h2 3 d)
theorem fa.eh {z0 z1:Value} (h:fa W A1 l1 A2 l2 A3 l3 xs ps qs) (hb:au W q T #[z0,z1]) (h1:41≠T) (h2:3≠T) (a b:Value):fa ((W.setCell (aA q 0) a).setCell (aA q 1) b) A1 l1 A2 l2 A3 l3 xs ps qs:=
 (h.set hb h1 h2 0 a).set (hb.aU 0 a) h1 h2 1 b
end
structure LZ (w W:World) (g s6 s7 s9:Nat) (N I B:Int) (A:OA) (len cap:Nat) (n:Int) (E:OA) (l c:Nat):Prop where
 r0:au W w.heap.size 27 jG
 r1:au W (w.heap.size+1) 60 #[iI 0,iI 0,iI 0,nS]
 r2:au W (w.heap.size+1+1) 63 jC
 b6:au W s6 60 #[iI N,iI I,iI B,.slice A len cap]
 b7:au W s7 63 #[iI n,.slice E l c]
 cu:dQ W g
 x:Ext w W
 gs:w.heap.size+1+1<g/\g<s6/\g<s7/\g<s9/\s6≠s9/\s7≠s9
section
variable {w W W':World} {g s6 s7 s9:Nat} {N I B:Int} {A:OA} {len cap:Nat} {n:Int} {E:OA} {l c:Nat}
theorem LZ.ext (h:LZ w W g s6 s7 s9 N I B A len cap n E l c) (hx:Ext W W'):LZ w W' g s6 s7 s9 N I B A len cap n E l c:=⟨h.r0.ext hx,h.r1.ext hx,h.r2.ext hx,h.b6.ext hx,h.b7.ext hx,h.cu.ext hx,h.x.trans hx,h.gs⟩
theorem LZ.grown (h:LZ w W g s6 s7 s9 N I B A len cap n E l c) (hg:W.grownBy W' (some g)) (hC:dQ W' g):LZ w W' g s6 s7 s9 N I B A len cap n E l c:=by
 have fA:=h.gs
 exact ⟨h.r0.grown hg (fun k hk=>ay),h.r1.grown hg (fun k hk=>ay),h.r2.grown hg (fun k hk=>ay),h.b6.grown hg (fun k hk=>ay),h.b7.grown hg (fun k hk=>ay),hC,h.x.grown hg (fun k hk=>ay),fA⟩
theorem LZ.row {e sz m:Nat} {v:Value} {ys:List Value} (h:LZ w W g s6 s7 s9 N I B A len cap n E l c) (ho:W.ownsRow w.heap.size e sz v m ys) (h1:e≠27) (h2:e≠60) (h3:e≠63) (h4:e≠74) (h5:e≠5) (hg:W.grownBy W' v.ownBlock) (hcu:dQ W' g):LZ w W' g s6 s7 s9 N I B A len cap n E l c:=
 ⟨cV h.r0 ho h1 hg,cV h.r1 ho h2 hg,cV h.r2 ho h3 hg,cV h.b6 ho h2 hg,cV h.b7 ho h3 hg,hcu,h.x.grown hg (fun k hk=>(ho.lt k hk).1),h.gs⟩
theorem LZ.aiC (h:LZ w W g s6 s7 s9 N I B A len cap n E l c) (i:Nat) (u:Value):LZ w (W.setCell (aA s9 i) u) g s6 s7 s9 N I B A len cap n E l c:=by
 have fA:=h.gs
 exact ⟨h.r0.cB (p:=(aA s9 i)) (by show w.heap.size≠s9;omega) _,h.r1.cB (p:=(aA s9 i)) (by show w.heap.size+1≠s9;omega) _,h.r2.cB (p:=(aA s9 i)) (by show w.heap.size+1+1≠s9;omega) _,h.b6.cB (p:=(aA s9 i)) fA.2.2.2.2.1 _,h.b7.cB (p:=(aA s9 i)) fA.2.2.2.2.2 _,h.cu.aU (p:=(aA s9 i)) fA.2.2.2.1 _,h.x.setCell (p:=(aA s9 i)) (by show w.heap.size<=s9;omega) _,fA⟩
end
def amX (w:World) (e:Ending) (w':World):Prop:=
 ∃(cn cb:Int) (A1:OA) (l1 c1:Nat) (A2:OA) (l2 c2:Nat) (A3:OA) (l3 c3:Nat) (xs:List Oq) (ps qs:List Int) (N I B:Int) (A:OA) (len cap:Nat) (n:Int) (E:OA) (l c:Nat),e=.returned (.tuple #[.agg #[iI cn,iI cb,.slice A1 l1 c1,.slice A2 l2 c2,.slice A3 l3 c3],.agg #[iI N,iI I,iI B,.slice A len cap],.agg #[iI n,.slice E l c]])/\fa w' A1 l1 A2 l2 A3 l3 xs ps qs/\(l1<=50000000000/\l2<=8/\l3<=8/\l2<=c2/\l3<=c3)/\Ext w w'
theorem Tf {w:World} {g k t:Nat} {cs:Array Value} (h:au w k t cs) (hg:k≠g) (a b c d e:Value):au (nQ w g a b c d e) k t cs:=
 ((((h.cB (p:=(aA g 0)) hg a).cB (p:=(aA g 1)) hg b).cB (p:=(aA g 2)) hg c).cB (p:=(aA g 3)) hg d).cB (p:=(aA g 4)) hg e
theorem amY {W:World} {s:Nat} {cn cb:Int} {A1:OA} {l1 c1:Nat} {A2:OA} {l2 c2:Nat} {A3:OA} {l3 c3:Nat} {xs:List Oq} {ps qs:List Int} (hB:au W s 27 #[iI cn,iI cb,.slice A1 l1 c1,.slice A2 l2 c2,.slice A3 l3 c3]) (hR:fa W A1 l1 A2 l2 A3 l3 xs ps qs) (hN:l1<=50000000000/\l2<=8/\l3<=8/\l2<=c2/\l3<=c3):
  ∃(cn cb:Int) (A1:OA) (l1 c1:Nat) (A2:OA) (l2 c2:Nat) (A3:OA) (l3 c3:Nat) (xs:List Oq) (ps qs:List Int),Hid (au W s 27 #[iI cn,iI cb,.slice A1 l1 c1,.slice A2 l2 c2,.slice A3 l3 c3])/\Hid (fa W A1 l1 A2 l2 A3 l3 xs ps qs)/\Hid (l1<=50000000000/\l2<=8/\l3<=8/\l2<=c2/\l3<=c3):=⟨cn,cb,A1,l1,c1,A2,l2,c2,A3,l3,c3,xs,ps,qs,hB,hR,hN⟩
theorem afu {P:Prop} (h:P:=by
 refine dt (S:=(fun W=>((W.cell? (aA s9 0)=some (iI cn)/\W.cell? (aA s9 1)=some (iI cb)/\W.cell? (aA s9 2)=some (.slice A1 l1 c1)/\W.cell? (aA s9 3)=some (.slice A2 l2 c2)/\W.cell? (aA s9 4)=some (.slice A3 l3 c3))/\(W.cell? (aA s6 0)=some (iI N)/\W.cell? (aA s6 1)=some (iI I)/\W.cell? (aA s6 2)=some (iI B)/\W.cell? (aA s6 3)=some (.slice A len cap)))/\W.cell? (aA s7 0)=some (iI n)/\W.cell? (aA s7 1)=some (.slice E l c))) af (⟨⟨(bM (HB.u.drew)).1,(aB (HL.u.b6.drew)).1⟩,(HL.u.b7.drew).cell 0,(HL.u.b7.drew).cell 1⟩) (fun aEQ=>?_);refine tq 0 ?_;refine tq 1 ?_;refine tq 2 ?_;obtain ⟨W0,UZ⟩:=ey (WW.drew);have CZ:=hY (HL.u.ext (xZ WW).drew);have bW:=hY (HB.u.ext (xZ WW).drew);have Zl:=hY (HR.u.ext (xZ WW).drew);rw [<-UZ] at CZ bW Zl |-;clear UZ HL HB HR aEQ;have fA:=CZ.u.gs;have f1:=CZ.u.r0.nQ (iI cn) (iI cb) (.slice A1 l1 c1) (.slice A2 l2 c2) (.slice A3 l3 c3);obtain ⟨⟨a0,a1,a2,a3,a4⟩,y0,y1,y2,y3,y4⟩:=bM CZ.u.r0;refine o1 3 fun K hK=>?_
 go_simp;have k9:=Tf bW.u (aa:s9≠w.heap.size) (iI cn) (iI cb) (.slice A1 l1 c1) (.slice A2 l2 c2) (.slice A3 l3 c3);have k6:=Tf CZ.u.b6 (aa:s6≠w.heap.size) (iI cn) (iI cb) (.slice A1 l1 c1) (.slice A2 l2 c2) (.slice A3 l3 c3);have k7:=Tf CZ.u.b7 (aa:s7≠w.heap.size) (iI cn) (iI cb) (.slice A1 l1 c1) (.slice A2 l2 c2) (.slice A3 l3 c3);have k1:=Tf CZ.u.r1 (aa:w.heap.size+1≠w.heap.size) (iI cn) (iI cb) (.slice A1 l1 c1) (.slice A2 l2 c2) (.slice A3 l3 c3);have k2:=Tf CZ.u.r2 (aa:w.heap.size+1+1≠w.heap.size) (iI cn) (iI cb) (.slice A1 l1 c1) (.slice A2 l2 c2) (.slice A3 l3 c3);have mC:=hY (Zl.u.nM CZ.u.r0 ae ae (iI cn) (iI cb) (.slice A1 l1 c1) (.slice A2 l2 c2) (.slice A3 l3 c3));have cH:=hY (js CZ.u.x (g:=w.heap.size) (lI _) (iI cn) (iI cb) (.slice A1 l1 c1) (.slice A2 l2 c2) (.slice A3 l3 c3));refine ov hK (⟨⟨(bM (k9)).1,(aB (k6)).1⟩,(k7).cell 0,(k7).cell 1⟩) fun aEQ=>?_
 clear aEQ a0 a1 a2 a3 a4 y0 y1 y2 y3 y4 Zl;change wpAnyH _ _ _ _ _ _ _ _ (nQ W0 w.heap.size (iI cn) (iI cb) (.slice A1 l1 c1) (.slice A2 l2 c2) (.slice A3 l3 c3));generalize nQ W0 w.heap.size (iI cn) (iI cb) (.slice A1 l1 c1) (.slice A2 l2 c2) (.slice A3 l3 c3)=Wp at*
 clear CZ bW;obtain ⟨⟨a0,a1,a2,a3⟩,y0,y1,y2,y3⟩:=aB k1;refine o1 4 fun K hK=>?_
 go_simp;have m9:=ed k9 (aa:s9≠w.heap.size+1) (iI N) (iI I) (iI B) (.slice A len cap);have m6:=ed k6 (aa:s6≠w.heap.size+1) (iI N) (iI I) (iI B) (.slice A len cap);have m7:=ed k7 (aa:s7≠w.heap.size+1) (iI N) (iI I) (iI B) (.slice A len cap);have m0:=ed f1 (aa:w.heap.size≠w.heap.size+1) (iI N) (iI I) (iI B) (.slice A len cap);have m1:=k1.bR (iI N) (iI I) (iI B) (.slice A len cap);have m2:=ed k2 (aa:w.heap.size+1+1≠w.heap.size+1) (iI N) (iI I) (iI B) (.slice A len cap);have jN:=hY (mC.u.bR k1 ae ae (iI N) (iI I) (iI B) (.slice A len cap));have eK:=hY (aW cH.u (g:=w.heap.size+1) (Nat.le_succ _) (iI N) (iI I) (iI B) (.slice A len cap));refine ov hK (⟨⟨(bM (m9)).1,(aB (m6)).1⟩,(m7).cell 0,(m7).cell 1⟩) fun aEQ=>?_
 clear aEQ a0 a1 a2 a3 y0 y1 y2 y3 mC cH;change wpAnyH _ _ _ _ _ _ _ _ (bR Wp (w.heap.size+1) (iI N) (iI I) (iI B) (.slice A len cap));generalize bR Wp (w.heap.size+1) (iI N) (iI I) (iI B) (.slice A len cap)=Wr at*
 clear k9 k6 k7 k1 k2 f1;obtain ⟨⟨a0,a1⟩,y0,y1⟩:=gg m2;refine o1 5 fun K hK=>?_
 go_simp;have p9:=(m9.cB (p:=(aA (w.heap.size+1+1) 0)) (by show s9≠w.heap.size+1+1;omega) (iI n)).cB (p:=(aA (w.heap.size+1+1) 1)) (by show s9≠w.heap.size+1+1;omega) (.slice E l c);have p6:=(m6.cB (p:=(aA (w.heap.size+1+1) 0)) (by show s6≠w.heap.size+1+1;omega) (iI n)).cB (p:=(aA (w.heap.size+1+1) 1)) (by show s6≠w.heap.size+1+1;omega) (.slice E l c);have p7:=(m7.cB (p:=(aA (w.heap.size+1+1) 0)) (by show s7≠w.heap.size+1+1;omega) (iI n)).cB (p:=(aA (w.heap.size+1+1) 1)) (by show s7≠w.heap.size+1+1;omega) (.slice E l c);have p0:=(m0.cB (p:=(aA (w.heap.size+1+1) 0)) (by show w.heap.size≠w.heap.size+1+1;omega) (iI n)).cB (p:=(aA (w.heap.size+1+1) 1)) (by show w.heap.size≠w.heap.size+1+1;omega) (.slice E l c);have p1:=(m1.cB (p:=(aA (w.heap.size+1+1) 0)) (by show w.heap.size+1≠w.heap.size+1+1;omega) (iI n)).cB (p:=(aA (w.heap.size+1+1) 1)) (by show w.heap.size+1≠w.heap.size+1+1;omega) (.slice E l c);have p2:=m2.qz (iI n) (.slice E l c);have Mp:=hY (jN.u.eh m2 ae ae (iI n) (.slice E l c));have fD:Hid (Ext w ((Wr.setCell (aA (w.heap.size+1+1) 0) (iI n)).setCell (aA (w.heap.size+1+1) 1) (.slice E l c))):=(eK.u.setCell (p:=(aA (w.heap.size+1+1) 0)) (by show w.heap.size<=w.heap.size+1+1;omega) _).setCell (p:=(aA (w.heap.size+1+1) 1)) (by show w.heap.size<=w.heap.size+1+1;omega) _;refine ov hK (⟨⟨(bM (p9)).1,(aB (p6)).1⟩,(p7).cell 0,(p7).cell 1⟩) fun aEQ=>?_
 refine dn ?_;clear aEQ a0 a1 y0 y1 jN eK m9 m6 m7 m0 m1 m2 p9 p6 p7;generalize (Wr.setCell (aA (w.heap.size+1+1) 0) (iI n)).setCell (aA (w.heap.size+1+1) 1) (.slice E l c)=Ws at*
 obtain ⟨⟨a0,a1,a2,a3,a4⟩,-⟩:=bM p0;obtain ⟨⟨b0,b1,b2,b3⟩,-⟩:=aB p1;obtain ⟨⟨d0,d1⟩,-⟩:=gg p2;clear p0 p1 p2;go_wp2
 exact bJ (v:=.tuple #[.agg #[iI cn,iI cb,.slice A1 l1 c1,.slice A2 l2 c2,.slice A3 l3 c3],.agg #[iI N,iI I,iI B,.slice A len cap],.agg #[iI n,.slice E l c]]) (by simp [results,results39,go_sem,a0,a1,a2,a3,a4,b0,b1,b2,b3,d0,d1]) rfl ⟨cn,cb,A1,l1,c1,A2,l2,c2,A3,l3,c3,xs,ps,qs,N,I,B,A,len,cap,n,E,l,c,rfl,Mp.u,HN.u,fD.u⟩):P:=h
theorem ajX {P:Prop} (h:P:=by
 refine o1 8 fun K hK=>?_
 have fA:=Qr.u;have hlz:=HZ.u;refine Oa (B:=g+1) ah _ _ ah _ l1 xs ah Dj.u (oM amZ.u) ⟨1,x,0,0,0⟩ _ _ ah ah aa ?_;intro A9 c9 w7 h1 h2 h9;have vh:Hid (fa w7 A9 (l1+1) A2 l2 A3 l3 (xs++[⟨1,x,0,0,0⟩]) ps qs):=⟨Rd.own h1,TB.own h1,Rd.own (kF oH.u Dj.u ae h2),TB.own (kF oH.u Dj.u ae h2),Rd.own (kF DN.u Dj.u ae h2),TB.own (kF DN.u Dj.u ae h2)⟩;have HL7:=hY (Va.u.row (aC Dj.u aa) ae ae ae ae ae h2 (Va.u.cu.grown h2 (fun k hk=>oM (Dj.u.lt k hk))));have nZ:Hid (au w7 s9 27 #[iI (nn:Int),iI cb,.slice A1 l1 c1,.slice A2 l2 c2,.slice A3 l3 c3]):=cV dP.u Dj.u ae h2;have HN:Hid (l1+1<=50000000000/\l2<=8/\l3<=8/\l2<=c2/\l3<=c3):=re
 clear Va dP Dj oH DN amZ fA hlz h1 h2 h9;refine ov hK ((bM nZ.u).1.1) fun aEQ=>?_
 refine tq 9 ?_;obtain ⟨⟨y0,y1,y2,y3,y4⟩,z0,z1,z2,z3,z4⟩:=bM nZ.u;refine o1 10 fun K hK=>?_
 go_simp;have HR:Hid (fa (w7.setCell (aA s9 2) (.slice A9 (l1+1) c9)) A9 (l1+1) A2 l2 A3 l3 (xs++[⟨1,x,0,0,0⟩]) ps qs):=vh.u.set nZ.u ae ae 2 _;have HL:Hid (LZ w (w7.setCell (aA s9 2) (.slice A9 (l1+1) c9)) g s6 s7 s9 N I B A len cap n E l c):=HL7.u.aiC 2 _;have HB:Hid (au (w7.setCell (aA s9 2) (.slice A9 (l1+1) c9)) s9 27 #[iI (nn:Int),iI cb,.slice A9 (l1+1) c9,.slice A2 l2 c2,.slice A3 l3 c3]):=nZ.u.aU 2 _;refine ov hK ((bM HB.u).1.1) fun aEQ=>?_
 refine dn ?_;clear y0 y1 y2 y3 y4 z0 z1 z2 z3 z4 vh HL7 nZ HZ Qr VE aEQ;generalize w7.setCell (aA s9 2) (.slice A9 (l1+1) c9)=WW at*
 go_upto_region 17 with fail;obtain ⟨cn,cb,A1,l1,c1,A2,l2,c2,A3,l3,c3,xs,ps,qs,HB,HR,HN⟩:=amY HB.u HR.u HN.u
 exact afu):P:=h
theorem arP {P:Prop} (h:P:=by
 refine o1 9 fun K hK=>?_
 refine aiB ah _ _ ah Bf.u HZ.u.2.2.2.2 HKL.u ah _ _ ah hCx.symm ?_;clear hCx;intro w7 h1 h2 h3;have fA:=Qr.u;have vh:Hid (fa w7 (some ⟨b,0,none⟩) (kk+(l1 - (kk+1))) A2 l2 A3 l3 (xs.take kk++xs.drop (kk+1)) ps qs):=⟨h1,h2,Rd.own (kF si.u Bf.u ae h3),TB.own (kF si.u Bf.u ae h3),Rd.own (kF Dl.u Bf.u ae h3),TB.own (kF Dl.u Bf.u ae h3)⟩;have HL7:=hY (CZ.u.row (aC Bf.u aa) ae ae ae ae ae h3 (CZ.u.cu.grown h3 (fun k hk=>by injection hk;have:=Lx.u;omega)));have nZ:Hid (au w7 s9 27 #[iI (nn:Int),iI cb,.slice (some ⟨b,0,none⟩) l1 c1,.slice A2 l2 c2,.slice A3 l3 c3]):=cV bW.u Bf.u ae h3;have HN:Hid (kk+(l1 - (kk+1))<=50000000000/\l2<=8/\l3<=8/\l2<=c2/\l3<=c3):=⟨amW HKL.u HZ.u.2.1,lK HZ.u.2.2.1 ae,lK HZ.u.2.2.2.1 ae,pn si.u,pn Dl.u⟩;clear CZ bW Bf si Dl fA h1 h2 h3;refine ov hK (trivial) fun aEQ=>?_
 refine tq 10 ?_;obtain ⟨⟨y0,y1,y2,y3,y4⟩,z0,z1,z2,z3,z4⟩:=bM nZ.u;refine o1 11 fun K hK=>?_
 go_simp;have HR:Hid (fa (w7.setCell (aA s9 2) (.slice (some ⟨b,0,none⟩) (kk+(l1 - (kk+1))) c1)) (some ⟨b,0,none⟩) (kk+(l1 - (kk+1))) A2 l2 A3 l3 (xs.take kk++xs.drop (kk+1)) ps qs):=vh.u.set nZ.u ae ae 2 _;have HL:Hid (LZ w (w7.setCell (aA s9 2) (.slice (some ⟨b,0,none⟩) (kk+(l1 - (kk+1))) c1)) g s6 s7 s9 N I B A len cap n E l c):=HL7.u.aiC 2 _;have HB:Hid (au (w7.setCell (aA s9 2) (.slice (some ⟨b,0,none⟩) (kk+(l1 - (kk+1))) c1)) s9 27 #[iI (nn:Int),iI cb,.slice (some ⟨b,0,none⟩) (kk+(l1 - (kk+1))) c1,.slice A2 l2 c2,.slice A3 l3 c3]):=nZ.u.aU 2 _;refine ov hK (trivial) fun aEQ=>?_
 refine dn ?_;clear y0 y1 y2 y3 y4 z0 z1 z2 z3 z4 vh HL7 nZ HZ Qr VE aEQ HKL Lx awU hkc ad7 aqm aqn aqo;generalize w7.setCell (aA s9 2) (.slice (some ⟨b,0,none⟩) (kk+(l1 - (kk+1))) c1)=WW at*
 go_upto_region 17 with fail;obtain ⟨cn,cb,A1,l1,c1,A2,l2,c2,A3,l3,c3,xs,ps,qs,HB,HR,HN⟩:=amY HB.u HR.u HN.u
 exact afu):P:=h
theorem qv {P:Prop} (h:P:=by
 obtain ⟨cn,cb,A1,l1,c1,A2,l2,c2,A3,l3,c3,xs,ps,qs,HB,HR,HN⟩:=amY HB.u HR.u HN.u
 exact afu):P:=h
theorem KL {P:Prop} (h:P:=by
 generalize hCx:(if c1=kk+1 then some (⟨b,0,none⟩:Addr) else some ⟨b,(kk+1)*8,none⟩)=Cx at*
 exact arP):P:=h
theorem KM {P:Prop} (h:P:=by
 refine o1 7 fun K hK=>?_
 go_simp;refine ov hK ((bM (dP.u.alloc _)).1.1) fun aEQ=>?_
 exact ajX):P:=h
theorem Tg (Ab:OA) (nb cb0:Nat) (bs:List Int) (w:World) (h:Rd w w.heap.size 1 Ab nb (Gn bs)) (hn:nb<=1048576):
  Calls prog 39 #[.slice Ab nb cb0] w (amX w):=by
 have Xo:=hY h;clear h;go_enter func39,ntmps39;go_wp2_with fail;refine (CM Ab nb cb0 bs _ (Xo.u.ext ((((xZ w).alloc _).alloc _).alloc _)) hn).mono ?_;rintro e w1 ⟨rfl,Yj,aK⟩;have xL:Ext w w1:=Ext.trans ((((xZ w).alloc _).alloc _).alloc _) aK;have hR0:au w1 w.heap.size 27 jG:=(((au.new w _ _).alloc _).alloc _).ext aK;have hR1:au w1 (w.heap.size+1) 60 #[iI 0,iI 0,iI 0,nS]:=((au.newAt ag).alloc _).ext aK;have hR2:au w1 (w.heap.size+1+1) 63 jC:=(au.newAt ag).ext aK;obtain ⟨g,hg⟩:=ey ((((w.alloc (cO jG 27)).alloc (cO #[iI 0,iI 0,iI 0,nS] 60)).alloc (cO jC 63)).heap.size);have pU:g=w.heap.size+1+1+1:=by rw [hg];simp
 simp only [<-hg] at Yj |-;have Qn:=hY pU;have hgw:w.heap.size+1+1<g:=aa
 clear hg pU aK;have pR:=Yj.lt
 (try rw [<-Qn.u])
 have jI:=hY (Xo.u.ext xL);go_wp2_with fail;refine (Ba Ab nb cb0 bs _ jI.u hn).mono ?_;rintro e w2 ⟨N,I,B,A,len,cap,os,n,E,l,c,es,mode,rfl,hlen,DW,azB,VQ,hoe,sj,bz⟩;have qw:=(Yj.ext bz).lt;have HS:=hY bz;have HOP:=hY (Rd.own VQ);have HOE:=hY (Rd.own hoe);have HL3:Hid (∀(W:World) (s9:Nat),Ext ((w2.alloc (cO #[iI N,iI I,iI B,.slice A len cap] 60)).alloc (cO #[iI n,.slice E l c] 63)) W->w2.heap.size+1<s9->LZ w W g w2.heap.size (w2.heap.size+1) s9 N I B A len cap n E l c):=fun W s9 hx hs=>
  ⟨((((hR0.ext bz).alloc _).alloc _).ext hx),((((hR1.ext bz).alloc _).alloc _).ext hx),((((hR2.ext bz).alloc _).alloc _).ext hx),(((au.new _ _ _).alloc _).ext hx),((au.newAt ag).ext hx),((((Yj.ext bz).alloc _).alloc _).ext hx),((((xL.trans bz).alloc _).alloc _).trans hx),aa⟩
 have dP:Hid (au ((w2.alloc (cO #[iI N,iI I,iI B,.slice A len cap] 60)).alloc (cO #[iI n,.slice E l c] 63)) w2.heap.size 60 #[iI N,iI I,iI B,.slice A len cap]):=(au.new _ _ _).alloc _;have nZ:Hid (au ((w2.alloc (cO #[iI N,iI I,iI B,.slice A len cap] 60)).alloc (cO #[iI n,.slice E l c] 63)) (w2.heap.size+1) 63 #[iI n,.slice E l c]):=au.newAt ag;have fD:Hid (Ext w ((w2.alloc (cO #[iI N,iI I,iI B,.slice A len cap] 60)).alloc (cO #[iI n,.slice E l c] 63))):=((xL.trans bz).alloc _).alloc _;have mf:Hid (Rd ((w2.alloc (cO #[iI N,iI I,iI B,.slice A len cap] 60)).alloc (cO #[iI n,.slice E l c] 63)) ((w2.alloc (cO #[iI N,iI I,iI B,.slice A len cap] 60)).alloc (cO #[iI n,.slice E l c] 63)).heap.size 8 A len (aJ os)/\Rd ((w2.alloc (cO #[iI N,iI I,iI B,.slice A len cap] 60)).alloc (cO #[iI n,.slice E l c] 63)) ((w2.alloc (cO #[iI N,iI I,iI B,.slice A len cap] 60)).alloc (cO #[iI n,.slice E l c] 63)).heap.size 2 E l (bK es)):=⟨HOP.u.ext (((xZ _).alloc _).alloc _),HOE.u.ext (((xZ _).alloc _).alloc _)⟩;have jm:((w2.alloc (cO #[iI N,iI I,iI B,.slice A len cap] 60)).alloc (cO #[iI n,.slice E l c] 63)).heap.size=w2.heap.size+1+1:=ag
 clear VQ hoe sj bz Yj pR qw hR0 hR1 hR2 xL HS HOP HOE jI;go_upto_region 3 with fail;generalize ((w2.alloc (cO #[iI N,iI I,iI B,.slice A len cap] 60)).alloc (cO #[iI n,.slice E l c] 63))=w3 at*
 obtain ⟨s6,sH⟩:=ex (w2.heap.size);rw [sH] at HL3 dP nZ jm
 try rw [sH]
 obtain ⟨s7,hs7⟩:=ex (s6+1);rw [hs7] at HL3 nZ jm
 try rw [hs7]
 clear sH hs7;obtain ⟨⟨c0,c1,c2,c3⟩,-⟩:=aB dP.u;obtain ⟨⟨d0,d1⟩,-⟩:=gg nZ.u;have cT:=hY (mf.u.1.len Oq.aG aa);have am0:=hY (mf.u.2.len Ed.aG aa);have HCO:Hid (Calls prog 56 #[.agg #[iI N,iI I,iI B,.slice A len cap],.agg #[iI n,.slice E l c],iI mode] w3 fun e w'=>(∃r,uy ⟨N,I,B,os⟩ ⟨n,es⟩ mode r/\aix w3 r e w')/\Ext w3 w'):=by
  have h9:=yh A cap ⟨N,I,B,os⟩ (.agg #[iI n,.slice E l c]) ⟨n,es⟩ mode w3 (by show Rd _ _ 8 A os.length _;rw [cT.u];exact mf.u.1) (by show os.length<=_;rw [cT.u];omega) ⟨E,c,by show _=Value.agg #[_,.slice E es.length c];rw [am0.u],by show Rd _ _ 2 E es.length _;rw [am0.u];exact mf.u.2⟩ (by show es.length<=_;rw [am0.u];omega);have e9:(⟨N,I,B,os⟩:Rt).ops.length=len:=cT.u;rw [e9] at h9
  exact h9
 go_wp2_with fail;refine HCO.u.mono ?_;rintro e w4 ⟨⟨r,hcr,hce⟩,fy⟩;have hs4:=fy.size
 cases r with
 |none=>
  unfold aix at hce;simp only at hce;subst hce;have HL:Hid (LZ w (w4.alloc (cO jG 27)) g s6 s7 w4.heap.size N I B A len cap n E l c):=HL3.u _ _ (fy.alloc _) aa;have HB:Hid (au (w4.alloc (cO jG 27)) w4.heap.size 27 jG):=au.new _ _ _;have HR:Hid (fa (w4.alloc (cO jG 27)) none 0 none 0 none 0 [] [] []):=⟨⟨rfl,fun h0=>absurd h0 aa⟩,fun b o e=>fU,⟨rfl,fun h0=>absurd h0 aa⟩,fun b o e=>fU,⟨rfl,fun h0=>absurd h0 aa⟩,fun b o e=>fU⟩;have HN:Hid ((0:Nat)<=50000000000/\(0:Nat)<=8/\(0:Nat)<=8/\(0:Nat)<=0/\(0:Nat)<=0):=bN
  clear hcr fy HCO HL3 dP nZ fD mf c0 c1 c2 c3 d0 d1;go_upto_region 5 with fail;generalize w4.heap.size=s9 at*
  generalize w4.alloc (cO jG 27)=WW at*
  exact qv
 |some z=>
  obtain ⟨hzn,hzo,EZ,hzf⟩:=hcr.bd;clear c0 c1 c2 c3 d0 d1;unfold aix at hce;simp only at hce;obtain ⟨A1,A2,A3,c1,c2,c3,b1,rfl,eu,fg,ie,-,-⟩:=hce;obtain ⟨cn,cb,xs,ps,qs⟩:=z;simp only at hzn hzo EZ hzf eu fg ie |-;obtain ⟨nn,hnn⟩:∃nn:Nat,cn=(nn:Int):=⟨cn.toNat,aa⟩;subst hnn;obtain ⟨l1,pR⟩:=ex (xs.length);obtain ⟨l2,qw⟩:=ex (ps.length);obtain ⟨l3,CQ⟩:=ex (qs.length);rw [pR] at eu hzo |-;rw [qw] at fg EZ |-;rw [CQ] at ie hzf |-;have HL:Hid (LZ w (w4.alloc (cO #[iI (nn:Int),iI cb,.slice A1 l1 c1,.slice A2 l2 c2,.slice A3 l3 c3] 27)) g s6 s7 w4.heap.size N I B A len cap n E l c):=HL3.u _ _ (fy.alloc _) aa;have HB:Hid (au (w4.alloc (cO #[iI (nn:Int),iI cb,.slice A1 l1 c1,.slice A2 l2 c2,.slice A3 l3 c3] 27)) w4.heap.size 27 #[iI (nn:Int),iI cb,.slice A1 l1 c1,.slice A2 l2 c2,.slice A3 l3 c3]):=au.new _ _ _;have fA:=HL.u.gs;have XT:Hid ((w4.alloc (cO #[iI (nn:Int),iI cb,.slice A1 l1 c1,.slice A2 l2 c2,.slice A3 l3 c3] 27)).ownsRow (g+1) 41 8 (.slice A1 l1 c1) l1 (aJ xs)):=(aC eu aa).alloc _;have vk:Hid ((w4.alloc (cO #[iI (nn:Int),iI cb,.slice A1 l1 c1,.slice A2 l2 c2,.slice A3 l3 c3] 27)).ownsRow (g+1) 3 1 (.slice A2 l2 c2) l2 (aD ps)):=(aC fg aa).alloc _;have Vr:Hid ((w4.alloc (cO #[iI (nn:Int),iI cb,.slice A1 l1 c1,.slice A2 l2 c2,.slice A3 l3 c3] 27)).ownsRow (g+1) 3 1 (.slice A3 l3 c3) l3 (aD qs)):=(aC ie aa).alloc _;have HZ:Hid ((1<=nn/\nn<=4)/\l1<=40000000000/\l2<=4/\l3<=4/\xs.length=l1):=⟨aa,hzo,EZ,hzf,pR⟩;clear hcr fy HCO HL3 dP nZ fD mf hzn hzo EZ hzf pR qw CQ eu fg ie fA jm hs4;go_upto_region 6 with fail;generalize w4.alloc (cO #[iI (nn:Int),iI cb,.slice A1 l1 c1,.slice A2 l2 c2,.slice A3 l3 c3] 27)=W4 at*
  generalize w4.heap.size=s9 at*
  go_wp2_with fail;refine (aT g 8 _ HL.u.cu aa).mono ?_;rintro e w5 ⟨x,rfl,⟨cD,aK,-⟩,kH,hZ⟩;have fA:=HL.u.gs;have Si:=hY (HL.u.grown hZ kH);have kN:Hid (au w5 s9 27 #[iI (nn:Int),iI cb,.slice A1 l1 c1,.slice A2 l2 c2,.slice A3 l3 c3]):=HB.u.grown hZ (fun k hk=>ay);have uE:=hY (dk XT.u hZ (fun k hk=>ay));have Ez:=hY (dk vk.u hZ (fun k hk=>ay));have LQ:=hY (dk Vr.u hZ (fun k hk=>ay));have Qr:=hY fA;have uH:=aK ae;have VE:=hY kN.u.lt;clear HL HB XT vk Vr hZ kH aK fA;rcases (aa:x=0\/x=1\/x=2\/x=3\/4<=x) with rfl|rfl|rfl|rfl|h4
  ·skip
   by_cases Tm:l1=0
   ·subst Tm;obtain ⟨⟨y0,y1,y2,y3,y4⟩,-⟩:=bM kN.u;have HR:Hid (fa w5 A1 0 A2 l2 A3 l3 xs ps qs):=⟨Rd.own uE.u,TB.own uE.u,Rd.own Ez.u,TB.own Ez.u,Rd.own LQ.u,TB.own LQ.u⟩;have HN:Hid (0<=50000000000/\l2<=8/\l3<=8/\l2<=c2/\l3<=c3):=yy
    have HL:=Si;have HB:=kN;clear uE Ez LQ Si kN HZ Qr VE;go_upto_region 17 with fail;clear y0 y1 y2 y3 y4;obtain ⟨WW,rfl⟩:=ey (w5)
    exact qv
   ·have awW:(l1:Int)>0:=aa
    have aDt:decide ((l1:Int)>0)=true:=sU awW
    obtain ⟨⟨y0,y1,y2,y3,y4⟩,-⟩:=bM kN.u;go_wp2_with fail;refine (Bu g l1 _ Si.u.cu (oM HZ.u)).mono ?_;rintro e w6 ⟨k,rfl,⟨lu,et,-⟩,Bj,nR⟩;obtain ⟨kk,rfl⟩:=lD lu;have fA:=Qr.u;have HKL:Hid (kk<l1):=by have:=et aa;unfold Hid;omega
    have Va:=hY (Si.u.grown nR Bj);have dP:Hid (au w6 s9 27 #[iI (nn:Int),iI cb,.slice A1 l1 c1,.slice A2 l2 c2,.slice A3 l3 c3]):=kN.u.grown nR (fun k hk=>ay);have Dj:=hY (dk uE.u nR (fun k hk=>ay));have oH:=hY (dk Ez.u nR (fun k hk=>ay));have DN:=hY (dk LQ.u nR (fun k hk=>ay));have Yt:=pn Dj.u;obtain ⟨b,rfl,-,WS,-⟩:=Yr Dj.u HZ.u.2.2.2.2 HKL.u;have Lx:Hid (g+1<=b):=WS;clear y0 y1 y2 y3 y4 lu et Bj nR Si kN uE Ez LQ fA WS;have awU:(0:Int)<=(kk:Int):=aa
    have hkc:(kk:Int)<=(c1:Int):=oM HKL.u
    have ad7:(0:Int)<=(kk:Int)+1:=aa
    have aqm:(kk:Int)+1<=(l1:Int):=oM HKL.u
    have aqn:IntKind.i64.wrap ((kk:Int)+1)=(kk:Int)+1:=lH _ (oN HKL.u HZ.u);have aqo:wrap64 ((kk:Int)+1)=(kk:Int)+1:=by have:=HKL.u;have:=HZ.u;unfold wrap64;omega
    go_upto_region 10 with fail;clear Yt;refine dt (S:=fun _=>True) af (trivial) (fun aEQ=>?_);refine tq 0 ?_;refine tq 2 ?_;refine tq 4 ?_;refine tq 6 ?_;refine tq 7 ?_;obtain ⟨W0,UZ⟩:=ey (w6.drew);have CZ:=hY (Va.u.ext (xZ w6).drew);have bW:=hY (dP.u.ext (xZ w6).drew);have Bf:=hY (aj Dj.u (xZ w6).drew);have si:=hY (aj oH.u (xZ w6).drew);have Dl:=hY (aj DN.u (xZ w6).drew);rw [<-UZ] at CZ bW Bf si Dl |-;clear UZ Va dP Dj oH DN aEQ;refine o2 1 5 (fun K hK=>?_) fun K hK=>?_
    ·skip;obtain ⟨⟨y0,y1,y2,y3,y4⟩,-⟩:=bM bW.u;go_simp;refine ov hK (trivial) fun aEQ=>?_
     clear y0 y1 y2 y3 y4;refine tq 3 ?_;refine o1 5 fun K hK=>?_
     obtain ⟨⟨y0,y1,y2,y3,y4⟩,-⟩:=bM bW.u;go_simp;refine ov hK (trivial) fun aEQ=>?_
     clear y0 y1 y2 y3 y4;refine tq 8 ?_
     exact KL
    ·skip;obtain ⟨⟨y0,y1,y2,y3,y4⟩,-⟩:=bM bW.u;go_simp;refine ov hK (trivial) fun aEQ=>?_
     clear y0 y1 y2 y3 y4;refine tq 8 ?_;refine o1 1 fun K hK=>?_
     obtain ⟨⟨y0,y1,y2,y3,y4⟩,-⟩:=bM bW.u;go_simp;refine ov hK (trivial) fun aEQ=>?_
     clear y0 y1 y2 y3 y4;refine tq 3 ?_
     exact KL
  ·skip;have awX:=HZ.u.1;obtain ⟨⟨y0,y1,y2,y3,y4⟩,-⟩:=bM kN.u;go_wp2_with fail;refine (tA g nn awX _ Si.u.cu).mono ?_;rintro e w6 ⟨b,c9,rfl,hb,hI6,Bj,nR⟩;have fA:=Qr.u;obtain ⟨ys,-,hoy⟩:=hI6.own (B:=g+1) (oM VE.u);have Va:=hY (Si.u.grown nR Bj);have dP:Hid (au w6 s9 27 #[iI (nn:Int),iI cb,.slice A1 l1 c1,.slice A2 l2 c2,.slice A3 l3 c3]):=kN.u.grown nR (fun k hk=>ay);have Dj:=hY (dk uE.u nR (fun k hk=>ay));have oH:=hY (dk Ez.u nR (fun k hk=>ay));have DN:=hY hoy;have HR:Hid (fa (w6.setCell (aA s9 4) (.slice (some ⟨b,0,none⟩) nn c9)) A1 l1 A2 l2 (some ⟨b,0,none⟩) nn xs ps ys):=fa.set ⟨Rd.own Dj.u,TB.own Dj.u,Rd.own oH.u,TB.own oH.u,Rd.own DN.u,TB.own DN.u⟩ dP.u ae ae 4 _;have HL:Hid (LZ w (w6.setCell (aA s9 4) (.slice (some ⟨b,0,none⟩) nn c9)) g s6 s7 s9 N I B A len cap n E l c):=Va.u.aiC 4 _;have HB:Hid (au (w6.setCell (aA s9 4) (.slice (some ⟨b,0,none⟩) nn c9)) s9 27 #[iI (nn:Int),iI cb,.slice A1 l1 c1,.slice A2 l2 c2,.slice (some ⟨b,0,none⟩) nn c9]):=dP.u.aU 4 _;have HN:Hid (l1<=50000000000/\l2<=8/\nn<=8/\l2<=c2/\nn<=c9):=re
   clear y0 y1 y2 y3 y4 uE Ez LQ Si kN Dj oH DN Va HZ Qr VE hI6 hoy Bj nR fA hb;obtain ⟨⟨y0,y1,y2,y3,y4⟩,z0,z1,z2,z3,z4⟩:=bM dP.u;go_upto_region 17 with fail;clear y0 y1 y2 y3 y4 z0 z1 z2 z3 z4 dP;generalize w6.setCell (aA s9 4) (.slice (some ⟨b,0,none⟩) nn c9)=WW at*
   exact qv
  ·skip;go_upto_region 14 with fail;refine dt (S:=(fun W=>W.cell? (aA s9 0)=some (iI (nn:Int)))) af ((bM kN.u.drew).1.1) (fun aEQ=>?_);refine tq 0 ?_;refine tq 2 ?_;refine tq 3 ?_;refine tq 4 ?_;obtain ⟨W0,UZ⟩:=ey (w5.drew);have CZ:=hY (Si.u.ext (xZ w5).drew);have bW:=hY (kN.u.ext (xZ w5).drew);have Bf:=hY (aj uE.u (xZ w5).drew);have si:=hY (aj Ez.u (xZ w5).drew);have Dl:=hY (aj LQ.u (xZ w5).drew);rw [<-UZ] at CZ bW Bf si Dl |-;clear UZ Si kN uE Ez LQ aEQ;refine o2 1 5 (fun K hK=>?_) fun K hK=>?_
   ·skip;obtain ⟨⟨y0,y1,y2,y3,y4⟩,-⟩:=bM bW.u;go_simp;refine ov hK (y0) fun aEQ=>?_
    clear y0 y1 y2 y3 y4;refine o1 5 fun K hK=>?_
    go_simp;refine (zL g nn HZ.u.1 _ CZ.u.cu).mono ?_;rintro e w6 ⟨x,rfl,Bj,nR⟩;have fA:=Qr.u;have Va:=hY (CZ.u.grown nR Bj);have dP:Hid (au w6 s9 27 #[iI (nn:Int),iI cb,.slice A1 l1 c1,.slice A2 l2 c2,.slice A3 l3 c3]):=bW.u.grown nR (fun k hk=>ay);have Dj:=hY (dk Bf.u nR (fun k hk=>ay));have oH:=hY (dk si.u nR (fun k hk=>ay));have DN:=hY (dk Dl.u nR (fun k hk=>ay));have amZ:=hY dP.u.lt;clear Bj nR CZ bW Bf si Dl fA;refine ov hK ((bM dP.u).1.1) fun aEQ=>?_
    refine tq 6 ?_
    exact KM
   ·skip;go_simp;refine (zL g nn HZ.u.1 _ CZ.u.cu).mono ?_;rintro e w6 ⟨x,rfl,Bj,nR⟩;have fA:=Qr.u;have Va:=hY (CZ.u.grown nR Bj);have dP:Hid (au w6 s9 27 #[iI (nn:Int),iI cb,.slice A1 l1 c1,.slice A2 l2 c2,.slice A3 l3 c3]):=bW.u.grown nR (fun k hk=>ay);have Dj:=hY (dk Bf.u nR (fun k hk=>ay));have oH:=hY (dk si.u nR (fun k hk=>ay));have DN:=hY (dk Dl.u nR (fun k hk=>ay));have amZ:=hY dP.u.lt;clear Bj nR CZ bW Bf si Dl fA;refine ov hK ((bM dP.u).1.1) fun aEQ=>?_
    refine tq 6 ?_;refine o2 1 7 (fun K hK=>?_) fun K hK=>?_
    ·skip;obtain ⟨⟨y0,y1,y2,y3,y4⟩,-⟩:=bM dP.u;go_simp;refine ov hK (y0) fun aEQ=>?_
     clear y0 y1 y2 y3 y4
     exact KM
    ·skip;go_simp;refine ov hK ((bM (dP.u.alloc _)).1.1) fun aEQ=>?_
     refine o1 1 fun K hK=>?_
     obtain ⟨⟨y0,y1,y2,y3,y4⟩,-⟩:=bM (dP.u.alloc (cO #[iI 1,iI x.k,iI x.a,iI x.b,iI x.c,iI 0,iI 0,iI 0] 41));go_simp;refine ov hK (y0) fun aEQ=>?_
     clear y0 y1 y2 y3 y4
     exact ajX
  ·skip;go_wp2_with fail;refine (Vl g _ Si.u.cu).mono ?_;rintro e w6 ⟨Az,lz,cz,zs,rfl,hlz,hoz,Bj,nR⟩;have fA:=Qr.u;have Va:=hY (Si.u.grown nR Bj);have dP:Hid (au w6 s9 27 #[iI (nn:Int),iI cb,.slice A1 l1 c1,.slice A2 l2 c2,.slice A3 l3 c3]):=kN.u.grown nR (fun k hk=>ay);have Dj:=hY (dk uE.u nR (fun k hk=>ay));have oH:=hY hoz;have DN:=hY (dk LQ.u nR (fun k hk=>ay));have HR:Hid (fa (w6.setCell (aA s9 3) (.slice Az lz cz)) A1 l1 Az lz A3 l3 xs zs qs):=fa.set ⟨Rd.own Dj.u,TB.own Dj.u,Rd.own oH.u,TB.own oH.u,Rd.own DN.u,TB.own DN.u⟩ dP.u ae ae 3 _;have HL:Hid (LZ w (w6.setCell (aA s9 3) (.slice Az lz cz)) g s6 s7 s9 N I B A len cap n E l c):=Va.u.aiC 3 _;have HB:Hid (au (w6.setCell (aA s9 3) (.slice Az lz cz)) s9 27 #[iI (nn:Int),iI cb,.slice A1 l1 c1,.slice Az lz cz,.slice A3 l3 c3]):=dP.u.aU 3 _;have HN:Hid (l1<=50000000000/\lz<=8/\l3<=8/\lz<=cz/\l3<=c3):=re
   clear uE Ez LQ Si kN Dj oH DN Va HZ Qr VE hlz hoz Bj nR fA;obtain ⟨⟨y0,y1,y2,y3,y4⟩,z0,z1,z2,z3,z4⟩:=bM dP.u;go_upto_region 17 with fail;clear y0 y1 y2 y3 y4 z0 z1 z2 z3 z4 dP;generalize w6.setCell (aA s9 3) (.slice Az lz cz)=WW at*
   exact qv
  ·skip;have v0:(x==0)=false:=dV
   have v1:(x==1)=false:=dV
   have v2:(x==2)=false:=dV
   have v3:(x==3)=false:=dV
   have HR:Hid (fa w5 A1 l1 A2 l2 A3 l3 xs ps qs):=⟨Rd.own uE.u,TB.own uE.u,Rd.own Ez.u,TB.own Ez.u,Rd.own LQ.u,TB.own LQ.u⟩;have HN:Hid (l1<=50000000000/\l2<=8/\l3<=8/\l2<=c2/\l3<=c3):=yy
   have HL:=Si;have HB:=kN;clear uE Ez LQ Si kN HZ Qr VE;go_upto_region 17 with fail;obtain ⟨WW,rfl⟩:=ey (w5)
   exact qv
end Go.Proofs.YtodhjgngkkcjgaaGreatDoor
