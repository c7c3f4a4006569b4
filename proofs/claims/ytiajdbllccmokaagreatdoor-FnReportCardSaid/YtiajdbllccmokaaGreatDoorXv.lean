import Derived.Test.YtiajdbllccmokaaGreatDoorXr
namespace Go.Proofs.YtiajdbllccmokaaGreatDoor
open Go.ChangeShapes Go.WideShapes Go.ChangeAt Go.RowKit Go.Deep Go.Proofs.Tryz
set_option linter.unusedVariables false
set_option linter.unusedSimpArgs false
set_option maxRecDepth 100000
set_option maxHeartbeats 16000000
abbrev ppZ:Value:=.agg #[iI 0,iI 0,.slice none 0 0,.slice none 0 0]
def ru (e:Ending) (w w':World) (q:Option Pp):Prop:=match q with
 |none=>e=.returned (.tuple #[ppZ,.bool false])
 |some q=>∃v,e=.returned (.tuple #[v,.bool true])/\th w' w.heap.size v q
theorem Hm {p:Pp} {g:Gt} (h:vg g p.n=false):eu p g=none:=by unfold eu;rw [h];rfl
theorem Oa.vg1 {p:Pp} {g:Gt} {k:Nat} (h:Oa p k) (hv:vg g p.n=true):¬(vg g p.n && ((p.os.length:Int)==p.n))=false:=by rw [hv,h.l];simp
theorem th.mk4 {w:World} {B:Nat} {A1 A2:OA} {c1 c2 l1 l2:Nat} {p:Pp} (h1:w.ownsRow B 179 2 (.slice A1 l1 c1) l1 (aN p.ts)) (h2:w.ownsRow B 161 2 (.slice A2 l2 c2) l2 (bA p.os)):th w B (.agg #[iI p.n,iI p.ph,.slice A1 l1 c1,.slice A2 l2 c2]) p:=by
 have e1:p.ts.length=l1:=(Rd.own h1).len Pt.aE aa;have e2:p.os.length=l2:=(Rd.own h2).len Af.aE aa;subst e1 e2
 exact ⟨A1,c1,A2,c2,rfl,h1,h2⟩
theorem wE {P:Prop} (h:P:=by
 rw [e1];simp only [bA,fK,Af.cells,nY,lN,Nn,Up,true_and]
 exact ih i (sU hi)):P:=h
theorem DX {w:World} {B g n c:Nat} {xs:List Af} {i:Nat} {x:Af} (h:w.ownsRow B 161 2 (.slice (some ⟨g,0,none⟩) n c) n (bA xs)) (hx:xs[i]?=some x) (u v:Int):
  ((w.setCell (aA g (i*2)) (iI u)).setCell (aA g (i*2+1)) (iI v)).ownsRow B 161 2 (.slice (some ⟨g,0,none⟩) n c) n (bA (xs.set i ⟨u,v⟩)):=by
 have h1:=((h.stored (i*2) (iI u)).1.stored (i*2+1) (iI v)).1;have e:∀(xs:List Af) (i:Nat),i<xs.length->((bA xs).set (i*2) (iI u)).set (i*2+1) (iI v)=bA (xs.set i ⟨u,v⟩):=by
  intro xs
  induction xs with
  |nil=>intro i hi;simp at hi
  |cons y ys ih=>
   intro i hi
   cases i with
   |zero=>rfl
   |succ i=>
    have e1:(i+1)*2=i*2+1+1:=aa
    have e2:(i+1)*2+1=i*2+1+1+1:=aa
    exact wE
 rw [e xs i (gU.1 hx).1] at h1
 exact h1
theorem SB {w:World} {B g n c:Nat} {xs:List Af} {i:Nat} {x:Af} (h:w.ownsRow B 161 2 (.slice (some ⟨g,0,none⟩) n c) n (bA xs)) (hx:xs[i]?=some x) (v:Int):
  (w.setCell (aA g (i*2+1)) (iI v)).ownsRow B 161 2 (.slice (some ⟨g,0,none⟩) n c) n (bA (xs.set i ⟨x.m,v⟩)):=by
 have h1:=(h.stored (i*2+1) (iI v)).1;have e:∀(xs:List Af) (i:Nat),xs[i]?=some x->(bA xs).set (i*2+1) (iI v)=bA (xs.set i ⟨x.m,v⟩):=by
  intro xs
  induction xs with
  |nil=>intro i hi;simp at hi
  |cons y ys ih=>
   intro i hi
   cases i with
   |zero=>simp at hi;subst hi;rfl
   |succ i=>
    have e1:(i+1)*2+1=i*2+1+1+1:=aa
    exact wE
 rw [e xs i hx] at h1
 exact h1
theorem WU {w:World} {B B' n m:Nat} {v u:Value} {xs:List Pt} {ys:List Af} {g k:Nat} (h:w.ownsRow B 179 2 v n (aN xs)) (h':w.ownsRow B' 161 2 u m (bA ys)) (e1:v.ownBlock=some g) (e2:u.ownBlock=some k):g≠k:=by
 rintro rfl;rcases h.2 with ⟨rfl,_⟩|⟨g1,c1,ajJ,rfl,_,hh1,_⟩
 ·cases e1
 rcases h'.2 with ⟨rfl,_⟩|⟨g2,c2,aoL,rfl,_,FZ,_⟩
 ·cases e2
 have d1:g1=g:=by simpa [Value.ownBlock] using e1
 have d2:g2=g:=by simpa [Value.ownBlock] using e2
 subst d1 d2;rw [hh1] at FZ;injection FZ with FZ;injection FZ with _ FZ;revert FZ;decide
theorem wF {w:World} {B B' n m c g:Nat} {v:Value} {xs:List Pt} {ys:List Af} (h:w.ownsRow B 179 2 v n (aN xs)) (h':w.ownsRow B' 161 2 (.slice (some ⟨g,0,none⟩) m c) m (bA ys)) (j:Nat) (u:Value):
  (w.setCell (aA g j) u).ownsRow B 179 2 v n (aN xs):=by
 refine h.kept (h'.stored j u).2 ?_
 cases hv:v.ownBlock with
 |none=>exact .inl rfl
 |some k=>
  right;intro e1;injection e1 with e1
  exact WU h h' hv rfl e1
theorem jc {w:World} {B e size n:Nat} {v:Value} {xs:List Value} (h:w.ownsRow B e size v n xs) {g:Nat} (hg:g<B) (a b c d:Value):(bP w g a b c d).ownsRow B e size v n xs:=
 bk (bk (bk (bk h (p:=(aA g 0)) hg _) (p:=(aA g 1)) hg _) (p:=(aA g 2)) hg _) (p:=(aA g 3)) hg _
theorem Jw {w:World} {B e size g n c:Nat} {xs:List Value} (h:w.ownsRow B e size (.slice (some ⟨g,0,none⟩) n c) n xs) (j:Nat):w.frozen? (aA g j)=false:=by
 rcases h.2 with ⟨h0,h1⟩|⟨gb,cap,cur,hv,hB,hh,-⟩
 ·cases h0
 ·injection hv with hv;injection hv with hv;injection hv with hv;subst hv
  exact yS w g j cur e hh
theorem zt {w:World} {B g n c:Nat} {xs:List Af} {i:Nat} {x:Af} (h:w.ownsRow B 161 2 (.slice (some ⟨g,0,none⟩) n c) n (bA xs)) (hx:xs[i]?=some x) (u:Int):
  (w.setCell (aA g (i*2)) (iI u)).ownsRow B 161 2 (.slice (some ⟨g,0,none⟩) n c) n (bA (xs.set i ⟨u,x.f⟩)):=by
 have h1:=(h.stored (i*2) (iI u)).1;have e:∀(xs:List Af) (i:Nat),xs[i]?=some x->(bA xs).set (i*2) (iI u)=bA (xs.set i ⟨u,x.f⟩):=by
  intro xs
  induction xs with
  |nil=>intro i hi;simp at hi
  |cons y ys ih=>
   intro i hi
   cases i with
   |zero=>simp at hi;subst hi;rfl
   |succ i=>
    have e1:(i+1)*2=i*2+1+1:=aa
    exact wE
 rw [e xs i hx] at h1
 exact h1
theorem DY {w:World} {B e size n m c:Nat} {xs:List Value} {gb:Nat} (h:w.ownsRow B e size (.slice (some ⟨gb,0,none⟩) m c) n xs) {g:Nat} (hg:gb≠g) (j:Nat) (u:Value):(w.setCell (aA g j) u).ownsRow B e size (.slice (some ⟨gb,0,none⟩) m c) n xs:=by
 refine h.kept (row:=some g) ⟨rfl,rfl,rfl,ag,fun k _ hk=>xz w ⟨g,j,none⟩ k u (fun e=>hk (by simp [e]))⟩ ?_;right;intro e1;injection e1 with e1
 exact hg e1
theorem DZ {P:Prop} (h:P:=by
 go_wp2;refine bR (v:=.tuple #[.agg jB,.bool false]) ?_ rfl ?_
 rotate_left
 ·rw [HV.u]
  exact ⟨rfl,iM.u⟩
 ·exact bF rfl _ _ _ _ _ _ _ rfl rfl lq.u underlying156 rfl af):P:=h
theorem pO (v:Value) (p:Pp) (g:Gt) (k:Nat) (w:World) (h:Lu w w.heap.size v p) (qz:Oa p k) (hk:k<=100000000000):
  Calls prog 119 #[v,g.val] w fun e w'=>ru e w w' (eu p g)/\Ext w w':=by
 have HP:=hY h;obtain ⟨A1,c1,A2,c2,rfl,pD,mg,vu,Cs,hp1,hp2⟩:=h;have hlO:=qz.l;have hnO:=qz.n;have htl:=qz.tl;have FR:=hY qz;clear qz;have mI:=hY pD;have iL:=hY mg;clear pD mg;have ke:Hid (Ext w (((w.alloc (cO #[iI p.n,iI p.ph,.slice A1 p.ts.length c1,.slice A2 p.os.length c2] 156)).alloc (cO (gA g) 54)).alloc (cO jB 156))):=fo
 have eG:Hid (ay (((w.alloc (cO #[iI p.n,iI p.ph,.slice A1 p.ts.length c1,.slice A2 p.os.length c2] 156)).alloc (cO (gA g) 54)).alloc (cO jB 156)) w.heap.size 156 #[iI p.n,iI p.ph,.slice A1 p.ts.length c1,.slice A2 p.os.length c2]):=((ay.new w _ _).alloc _).alloc _;have ie:Hid (ay (((w.alloc (cO #[iI p.n,iI p.ph,.slice A1 p.ts.length c1,.slice A2 p.os.length c2] 156)).alloc (cO (gA g) 54)).alloc (cO jB 156)) (w.heap.size+1) 54 (gA g)):=(ay.newAt ag).alloc _;have fV:Hid (ay (((w.alloc (cO #[iI p.n,iI p.ph,.slice A1 p.ts.length c1,.slice A2 p.os.length c2] 156)).alloc (cO (gA g) 54)).alloc (cO jB 156)) (w.heap.size+1+1) 156 jB):=ay.newAt ag;go_enter func119,ntmps119;go_upto_region 1 with fail;generalize ((w.alloc (cO #[iI p.n,iI p.ph,.slice A1 p.ts.length c1,.slice A2 p.os.length c2] 156)).alloc (cO (gA g) 54)).alloc (cO jB 156)=W at*
 obtain ⟨⟨a0,a1,a2,a3⟩,-⟩:=aB eG.u;obtain ⟨⟨g0,g1,g2,g3⟩,-⟩:=aB ie.u
 cases hv:vg g p.n
 ·have HV:=hY (Hm hv);go_wp2_with fail;refine (bj g p.n _).mono ?_;rintro e wq ⟨rfl,Ju⟩;rw [hv];obtain ⟨⟨d0,d1,d2,d3⟩,z0,z1,z2,z3⟩:=aB (fV.u.ext Ju);have lq:Hid (ay (bP wq (w.heap.size+1+1) (iI 0) (iI 0) (nS) (nS)) (w.heap.size+1+1) 156 jB):=(fV.u.ext Ju).bP _ _ _ _;have iM:Hid (Ext w (bP wq (w.heap.size+1+1) (iI 0) (iI 0) (nS) (nS))):=br (g:=w.heap.size+1+1) (ke.u.trans Ju) aa _ _ _ _;clear Ju hv
  exact DZ
 ·have Kv:=hY (FR.u.vg1 hv);obtain ⟨-,aoM,gF,ir,sg,-⟩:=oh hv;obtain ⟨ia,hia⟩:=lD gF.1;obtain ⟨ib,hib⟩:=lD ir.1;have TT:ia<p.os.length:=aa
  have RW:ib<p.os.length:=aa
  have TU:=hY (lQ hia hib);clear hia hib gF ir sg;go_wp2_with fail;refine (bj g p.n _).mono ?_;rintro e wq ⟨rfl,Ju⟩;rw [hv];clear hv;have HPq:=HP.u.ext (ke.u.trans Ju);have HXq:=hY (ke.u.trans Ju);have aff:=hY (eG.u.ext Ju);have afg:=hY (ie.u.ext Ju);have afh:=hY (fV.u.ext Ju);have WV:=afh.u.lt;clear a0 a1 a2 a3 g0 g1 g2 g3;obtain ⟨⟨a0,a1,a2,a3⟩,-⟩:=aB aff.u;obtain ⟨⟨g0,g1,g2,g3⟩,-⟩:=aB afg.u;clear Ju;go_wp2_with fail;refine (Lx _ p _ HPq aa aa).mono ?_;rintro e w3 ⟨⟨v3,rfl,A3,c3,A4,c4,rfl,jm,rk⟩,bT⟩;clear HPq a0 a1 a2 a3 g0 g1 g2 g3;have iM:Hid (Ext w (w3.alloc (cO #[iI p.n,iI p.ph,.slice A3 p.ts.length c3,.slice A4 p.os.length c4] 156))):=(HXq.u.trans bT).alloc _;have MZ:=hY ((aff.u.ext bT).alloc (cO #[iI p.n,iI p.ph,.slice A3 p.ts.length c3,.slice A4 p.os.length c4] 156));have Lp:=hY ((afg.u.ext bT).alloc (cO #[iI p.n,iI p.ph,.slice A3 p.ts.length c3,.slice A4 p.os.length c4] 156));have Fy:=hY ((afh.u.ext bT).alloc (cO #[iI p.n,iI p.ph,.slice A3 p.ts.length c3,.slice A4 p.os.length c4] 156));have HC3:=hY (ay.new w3 156 #[iI p.n,iI p.ph,.slice A3 p.ts.length c3,.slice A4 p.os.length c4]);have ajL:∀g,(Value.slice A3 p.ts.length c3).ownBlock=some g->wq.heap.size<=g/\g<w3.heap.size:=fun g hg=>jm.lt g hg
  have ajM:∀g,(Value.slice A4 p.os.length c4).ownBlock=some g->wq.heap.size<=g/\g<w3.heap.size:=fun g hg=>rk.lt g hg
  have sr:=hY (lQ (jm.alloc (cO #[iI p.n,iI p.ph,.slice A3 p.ts.length c3,.slice A4 p.os.length c4] 156)) (rk.alloc (cO #[iI p.n,iI p.ph,.slice A3 p.ts.length c3,.slice A4 p.os.length c4] 156)));have hs3:=bT.size;clear jm rk bT aff afg afh HXq eG ie fV ke;have g0:=Lp.u.ck 0;have bS:=hY (lQ ajL ajM);clear ajL ajM;go_upto_region 4 with fail;have hw3:(w3.alloc (cO #[iI p.n,iI p.ph,.slice A3 p.ts.length c3,.slice A4 p.os.length c4] 156)).heap.size=w3.heap.size+1:=ag
  generalize (w3.alloc (cO #[iI p.n,iI p.ph,.slice A3 p.ts.length c3,.slice A4 p.os.length c4] 156))=W3 at*
  go_wp2_with fail;refine (bC g.k _).mono ?_;rintro e wr ⟨rfl,rfl⟩;clear g0;obtain ⟨b,o,x,rfl,-,hx,x0,x1⟩:=Dt (iL.u.ext iM.u) TT;have rz:=FR.u.o x (lG hx);have hoA:iq p.os g.a=x:=by rw [TU.u.1];exact Bt hx
  have QD:=hY (lQ hx hoA);clear hx hoA;have a3:=MZ.u.ck 3;have g1:W3.cell? (aA (w.z+1) 1)=some (iI ia):=Lp.u.cv 1 TU.u.1
  have g0:=Lp.u.ck 0;go_upto_region 7 with fail;have iN:Hid (Ext w (W3.alloc (cO #[iI x.m,iI x.f] 161))):=iM.u.alloc _;have xj:=hY (MZ.u.alloc (cO #[iI x.m,iI x.f] 161));have Av:=hY (Lp.u.alloc (cO #[iI x.m,iI x.f] 161));have IG:=hY (Fy.u.alloc (cO #[iI x.m,iI x.f] 161));have Ea:=hY (HC3.u.alloc (cO #[iI x.m,iI x.f] 161));have td:Hid (ay (W3.alloc (cO #[iI x.m,iI x.f] 161)) (w3.heap.size+1) 161 #[iI x.m,iI x.f]):=ay.newAt hw3.symm;have iK:=hY (lQ (sr.u.1.alloc (cO #[iI x.m,iI x.f] 161)) (sr.u.2.alloc (cO #[iI x.m,iI x.f] 161)));clear iM MZ Lp Fy HC3 sr g0 g1 a3 x0 x1;generalize (W3.alloc (cO #[iI x.m,iI x.f] 161))=W5 at*
  have hA4:∃gb,A4=some ⟨gb,0,none⟩/\wq.heap.size<=gb/\gb<w3.heap.size/\∀j,W5.frozen? (aA gb j)=false:=by
   rcases iK.u.2.2 with ⟨h0,h1⟩|⟨gb,cap,cur,hv,hB,hh,-⟩
   ·omega
   ·injection hv with hv;subst hv;have:=bS.u.2 gb rfl
    exact ⟨gb,rfl,this.1,this.2,fun j=>yS W5 gb j cur _ hh⟩
  obtain ⟨gb,rfl,avG,avH,PQ⟩:=hA4;obtain ⟨b',o',x',hbo,-,rF,y0,y1⟩:=Dt (Rd.own iK.u.2) TT;injection hbo with hbo;injection hbo with rb ho';subst rb ho';obtain rfl:x=x':=by have:=QD.u.1;rw [rF] at this;cases this;rfl
  clear rF;rw [lM] at y0 y1;have xl:=PQ (ia*2);have Ho:=PQ (ia*2+1);have g0:=Av.u.ck 0;have g1:W5.cell? (aA (w.z+1) 1)=some (iI ia):=Av.u.cv 1 TU.u.1
  have g2:W5.cell? (aA (w.z+1) 2)=some (iI ib):=Av.u.cv 2 TU.u.2
  have q0:=td.u.ck 0;have q1:=td.u.ck 1;have t3:=Ea.u.ck 3;have han:(ia:Int)<p.n:=aa
  have hbn:(ib:Int)<p.n:=aa
  cases e1:(g.k==1)
  ·cases e9:(g.k==9)
   ·have eM:¬g.k=1:=sU e1
    have VA:¬g.k=9:=sU e9
    cases e11:(g.k==11)
    ·have Jx:¬g.k=11:=sU e11
     by_cases SC:0<bB g.k
     ·have RL:decide (bB g.k>0)=true:=sU SC
      cases ef:(x.f==0)
      ·skip;have avJ:x.f=1:=by have hne:¬x.f=0:=(sU ef);omega
       have HV:Hid (eu p g=some ⟨p.n,((p.ph+bB g.k) % 8),fg p.ts x.m ((-(bB g.k)) % 8),p.os⟩):=by
        unfold Hid eu;rw [aK Kv.u,aK eM,aK VA,aK Jx,aX SC,QD.u.2,aK aa]
       have hrb:=(xY g.k).2;have hph:=FR.u.ph;have a1:=xj.u.ck 1;have OH:IntKind.i64.wrap (p.ph+bB g.k)=p.ph+bB g.k:=lH _ aa;have Jy:wrap64 (p.ph+bB g.k)=p.ph+bB g.k:=bo
       have k1:=Ea.u.ck 1;have f1:=Ea.u.frozen 1;go_wp2_with fail;refine (eD (p.ph+bB g.k) _ aa).mono ?_;rintro e w5 ⟨rfl,rfl⟩;have eQ:Hid (Ext w (W5.setCell (aA w3.heap.size 1) (iI ((p.ph+bB g.k) % 8)))):=iN.u.setCell (p:=(aA w3.heap.size 1)) (by show w.heap.size<=w3.heap.size;omega) _;have HE0:=hY (xj.u.bX (p:=(aA w3.heap.size 1)) (by show w.heap.size≠w3.heap.size;omega) (iI ((p.ph+bB g.k) % 8)));have AW:=hY (IG.u.bX (p:=(aA w3.heap.size 1)) (by show w.heap.size+1+1≠w3.heap.size;omega) (iI ((p.ph+bB g.k) % 8)));have Ob:=hY (Ea.u.ba 1 (iI ((p.ph+bB g.k) % 8)));have IW:=hY (td.u.bX (p:=(aA w3.heap.size 1)) (by show w3.heap.size+1≠w3.heap.size;omega) (iI ((p.ph+bB g.k) % 8)));have fF:=hY (DY iK.u.2 (g:=w3.heap.size) (by show gb≠w3.heap.size;omega) 1 (iI ((p.ph+bB g.k) % 8)));have h5s:w3.heap.size<(W5.setCell (aA w3.heap.size 1) (iI ((p.ph+bB g.k) % 8))).heap.size:=by have:=Ea.u.lt;simpa using this
       go_upto_region 19 with fail;clear xj Av IG Ea td iK iN y0 y1 xl Ho g0 g1 g2 q0 q1 t3 PQ a1 k1 f1;generalize W5.setCell (aA w3.heap.size 1) (iI ((p.ph+bB g.k) % 8))=W7 at*
       have ay4:(fun wd=>wd.cell? (aA w.z 2)=some (.slice A1 p.ts.length c1)/\wd.cell? (aA (w3.z+1) 0)=some (iI x.m)) W7.drew:=⟨HE0.u.cell 2,IW.u.cell 0⟩;refine dm (S:=(fun wd=>wd.cell? (aA w.z 2)=some (.slice A1 p.ts.length c1)/\wd.cell? (aA (w3.z+1) 0)=some (iI x.m))) af ay4 (fun ay4=>?_);refine tq 0 ?_;refine tq 1 ?_;refine tq 2 ?_;refine tq 3 ?_;refine tq 4 ?_
       (refine nW (i:=5) (v:=iI (-(bB g.k))) rfl af af af (fun _ _ _ h=>h) (Or.inl ⟨ah,?_⟩) aQ ?_;· (intro w hSw;(try dsimp only at hSw);go_simp;first|done|exact lH _ aa))
       (try refine pt ?_)
       refine o1 6 fun K hK=>?_
       go_simp;refine (eD (-(bB g.k)) _ aa).mono ?_;rintro e w5 ⟨rfl,rfl⟩;refine ov hK ay4 fun ay4=>?_
       refine o1 7 fun K hK=>?_
       go_simp;refine (DJ A1 p.ts.length c1 p.ts x.m ((-(bB g.k)) % 8) _ (mI.u.ext eQ.u.drew) aa vu (fun t ht=>(FR.u.t t ht).2) aa hp1).mono ?_;rintro e w6 ⟨⟨v6,rfl,px⟩,mC⟩;obtain ⟨A6,c6,rfl,-⟩:=au px;refine ov hK ⟨(HE0.u.drew.ext mC).cell 2,(IW.u.drew.ext mC).cell 0⟩ fun ay4=>?_
       refine tq 8 ?_;have k2:=(Ob.u.drew.ext mC).ck 2;have f2:=(Ob.u.drew.ext mC).frozen 2;refine o1 9 fun K hK=>?_
       go_simp;refine ov hK ⟨((HE0.u.drew.ext mC).bX (p:=(aA w3.heap.size 2)) (by show w.heap.size≠w3.heap.size;omega) _).cell 2,((IW.u.drew.ext mC).bX (p:=(aA w3.heap.size 2)) (by show w3.heap.size+1≠w3.heap.size;omega) _).cell 0⟩ fun ay4=>?_
       refine dn ?_;have h5d:w3.heap.size<W7.drew.heap.size:=h5s;have dG:Hid (Ext w (w6.setCell (aA w3.heap.size 2) (.slice A6 (fg p.ts x.m ((-(bB g.k)) % 8)).length c6))):=(eQ.u.drew.trans mC).setCell (p:=(aA w3.heap.size 2)) (by show w.heap.size<=w3.heap.size;omega) _;have fV:=hY ((AW.u.drew.ext mC).bX (p:=(aA w3.heap.size 2)) (by show w.heap.size+1+1≠w3.heap.size;omega) (.slice A6 (fg p.ts x.m ((-(bB g.k)) % 8)).length c6));have lq:=hY ((Ob.u.drew.ext mC).ba 2 (.slice A6 (fg p.ts x.m ((-(bB g.k)) % 8)).length c6));have km:=hY (lQ (bk (aC px (lI _)) (p:=(aA w3.heap.size 2)) h5s (.slice A6 (fg p.ts x.m ((-(bB g.k)) % 8)).length c6)) (DY (aq fF.u ((xZ W7).drew.trans mC)) (g:=w3.heap.size) (by show gb≠w3.heap.size;omega) 2 (.slice A6 (fg p.ts x.m ((-(bB g.k)) % 8)).length c6)));clear HE0 AW Ob IW fF eQ k2 f2 px mC ay4;generalize w6.setCell (aA w3.heap.size 2) (.slice A6 (fg p.ts x.m ((-(bB g.k)) % 8)).length c6)=W6 at*
       have k0:=lq.u.cell 0;have k1:=lq.u.cell 1;have k2:=lq.u.cell 2;have k3:=lq.u.cell 3;obtain ⟨⟨d0,d1,d2,d3⟩,z0,z1,z2,z3⟩:=aB fV.u;have BC:=hY (fV.u.bP (iI p.n) (iI ((p.ph+bB g.k) % 8)) (.slice A6 (fg p.ts x.m ((-(bB g.k)) % 8)).length c6) (.slice (some ⟨gb,0,none⟩) p.os.length c4));have mJ:=hY (br (g:=w.heap.size+1+1) dG.u aa (iI p.n) (iI ((p.ph+bB g.k) % 8)) (.slice A6 (fg p.ts x.m ((-(bB g.k)) % 8)).length c6) (.slice (some ⟨gb,0,none⟩) p.os.length c4));have kN:=hY (lQ (jc (km.u.1) (g:=w.heap.size+1+1) (oM h5d) (iI p.n) (iI ((p.ph+bB g.k) % 8)) (.slice A6 (fg p.ts x.m ((-(bB g.k)) % 8)).length c6) (.slice (some ⟨gb,0,none⟩) p.os.length c4)) (jc (km.u.2) (g:=w.heap.size+1+1) WV (iI p.n) (iI ((p.ph+bB g.k) % 8)) (.slice A6 (fg p.ts x.m ((-(bB g.k)) % 8)).length c6) (.slice (some ⟨gb,0,none⟩) p.os.length c4)));clear fV lq dG km;go_wp2;refine bR (v:=.tuple #[.agg #[iI p.n,iI ((p.ph+bB g.k) % 8),.slice A6 (fg p.ts x.m ((-(bB g.k)) % 8)).length c6,.slice (some ⟨gb,0,none⟩) p.os.length c4],.bool true]) ?_ rfl ?_
       rotate_left
       ·rw [HV.u]
        exact ⟨⟨_,rfl,th.mk4 (p:=⟨p.n,((p.ph+bB g.k) % 8),fg p.ts x.m ((-(bB g.k)) % 8),p.os⟩) (aC kN.u.1 aa) (aC kN.u.2 aa)⟩,mJ.u⟩
       ·exact bF rfl _ _ _ _ _ _ _ rfl rfl BC.u underlying156 rfl af
      ·skip;have aoP:x.f=0:=sU ef
       have HV:Hid (eu p g=some ⟨p.n,p.ph,fg p.ts x.m (bB g.k),p.os⟩):=by
        unfold Hid eu;rw [aK Kv.u,aK eM,aK VA,aK Jx,aX SC,QD.u.2,aX aoP]
       have a2:=xj.u.ck 2;go_wp2_with fail;refine (DJ A1 p.ts.length c1 p.ts x.m (bB g.k) _ (mI.u.ext iN.u) aa vu (fun t ht=>(FR.u.t t ht).2) (oM (xY g.k)) hp1).mono ?_;rintro e w6 ⟨⟨v6,rfl,px⟩,mC⟩;obtain ⟨A6,c6,rfl,-⟩:=au px;have k2:=(Ea.u.ext mC).ck 2;have f2:=(Ea.u.ext mC).frozen 2;have dG:Hid (Ext w (w6.setCell (aA w3.heap.size 2) (.slice A6 (fg p.ts x.m (bB g.k)).length c6))):=(iN.u.trans mC).setCell (p:=(aA w3.heap.size 2)) (by show w.heap.size<=w3.heap.size;omega) _;have fV:=hY ((IG.u.ext mC).bX (p:=(aA w3.heap.size 2)) (by show w.heap.size+1+1≠w3.heap.size;omega) (.slice A6 (fg p.ts x.m (bB g.k)).length c6));have lq:=hY ((Ea.u.ext mC).ba 2 (.slice A6 (fg p.ts x.m (bB g.k)).length c6));have h5s:=Ea.u.lt;have km:=hY (lQ (bk (aC px (lI _)) (p:=(aA w3.heap.size 2)) h5s (.slice A6 (fg p.ts x.m (bB g.k)).length c6)) (DY (aq iK.u.2 mC) (g:=w3.heap.size) (by show gb≠w3.heap.size;omega) 2 (.slice A6 (fg p.ts x.m (bB g.k)).length c6)));go_upto_region 20 with fail;clear xj Av IG Ea td iK iN y0 y1 xl Ho g0 g1 g2 q0 q1 t3 PQ a2 k2 f2 px mC;generalize w6.setCell (aA w3.heap.size 2) (.slice A6 (fg p.ts x.m (bB g.k)).length c6)=W6 at*
       have k0:=lq.u.cell 0;have k1:=lq.u.cell 1;have k2:=lq.u.cell 2;have k3:=lq.u.cell 3;obtain ⟨⟨d0,d1,d2,d3⟩,z0,z1,z2,z3⟩:=aB fV.u;have BC:=hY (fV.u.bP (iI p.n) (iI p.ph) (.slice A6 (fg p.ts x.m (bB g.k)).length c6) (.slice (some ⟨gb,0,none⟩) p.os.length c4));have mJ:=hY (br (g:=w.heap.size+1+1) dG.u aa (iI p.n) (iI p.ph) (.slice A6 (fg p.ts x.m (bB g.k)).length c6) (.slice (some ⟨gb,0,none⟩) p.os.length c4));have kN:=hY (lQ (jc (km.u.1) (g:=w.heap.size+1+1) aa (iI p.n) (iI p.ph) (.slice A6 (fg p.ts x.m (bB g.k)).length c6) (.slice (some ⟨gb,0,none⟩) p.os.length c4)) (jc (km.u.2) (g:=w.heap.size+1+1) WV (iI p.n) (iI p.ph) (.slice A6 (fg p.ts x.m (bB g.k)).length c6) (.slice (some ⟨gb,0,none⟩) p.os.length c4)));clear fV lq dG km;go_wp2;refine bR (v:=.tuple #[.agg #[iI p.n,iI p.ph,.slice A6 (fg p.ts x.m (bB g.k)).length c6,.slice (some ⟨gb,0,none⟩) p.os.length c4],.bool true]) ?_ rfl ?_
       rotate_left
       ·rw [HV.u]
        exact ⟨⟨_,rfl,th.mk4 (p:=⟨p.n,p.ph,fg p.ts x.m (bB g.k),p.os⟩) (aC kN.u.1 aa) (aC kN.u.2 aa)⟩,mJ.u⟩
       ·exact bF rfl _ _ _ _ _ _ _ rfl rfl BC.u underlying156 rfl af
     ·skip;have SC:bB g.k=0:=oM ((xY g.k).1)
      have HV:Hid (eu p g=none):=by
       unfold Hid eu;rw [aK Kv.u,aK eM,aK VA,aK Jx,aK aa]
      have fP:decide (bB g.k>0)=false:=by simp [SC]
      rw [SC] at fP |-;obtain ⟨⟨d0,d1,d2,d3⟩,z0,z1,z2,z3⟩:=aB IG.u;have lq:=hY (IG.u.bP (iI 0) (iI 0) (nS) (nS));have iM:=hY (br (g:=w.heap.size+1+1) iN.u aa (iI 0) (iI 0) (nS) (nS))
      exact DZ
    ·skip;have Jx:g.k=11:=sU e11
     obtain ⟨b1,o1,y,OI,aoQ,hy,u0,u1⟩:=Dt (iL.u.ext iN.u) RW;injection OI with OI;injection OI with mS eF;subst mS eF;have hyo:=FR.u.o y (lG hy);have hoB:iq p.os g.b=y:=by rw [TU.u.2];exact Bt hy
     have HYA:=hY (lQ hy hoB);clear hy hoB;have HV:Hid (eu p g=some ⟨p.n,p.ph,p.ts,(p.os.set ia y).set ib x⟩):=by
      unfold Hid eu;rw [aK Kv.u,aK aa,aK aa,aX Jx,QD.u.2,HYA.u.2,TU.u.1,TU.u.2];rfl
     have a3:=xj.u.ck 3;have eQ:Hid (Ext w (((W5.setCell (aA gb (ia*2)) (iI y.m)).setCell (aA gb (ia*2+1)) (iI y.f)).drew)):=((iN.u.setCell (p:=(aA gb (ia*2))) (by show w.heap.size<=gb;omega) _).setCell (p:=(aA gb (ia*2+1))) (by show w.heap.size<=gb;omega) _).drew;have HE1:=hY (ay.drew ((Av.u.bX (p:=(aA gb (ia*2))) (by show w.heap.size+1≠gb;omega) (iI y.m)).bX (p:=(aA gb (ia*2+1))) (by show w.heap.size+1≠gb;omega) (iI y.f)));have AW:=hY (ay.drew ((IG.u.bX (p:=(aA gb (ia*2))) (by show w.heap.size+1+1≠gb;omega) (iI y.m)).bX (p:=(aA gb (ia*2+1))) (by show w.heap.size+1+1≠gb;omega) (iI y.f)));have Ob:=hY (ay.drew ((Ea.u.bX (p:=(aA gb (ia*2))) (by show w3.heap.size≠gb;omega) (iI y.m)).bX (p:=(aA gb (ia*2+1))) (by show w3.heap.size≠gb;omega) (iI y.f)));have IW:=hY (ay.drew ((td.u.bX (p:=(aA gb (ia*2))) (by show w3.heap.size+1≠gb;omega) (iI y.m)).bX (p:=(aA gb (ia*2+1))) (by show w3.heap.size+1≠gb;omega) (iI y.f)));have fF:Hid ((((W5.setCell (aA gb (ia*2)) (iI y.m)).setCell (aA gb (ia*2+1)) (iI y.f)).drew).ownsRow wq.heap.size 179 2 (.slice A3 p.ts.length c3) p.ts.length (aN p.ts)/\(((W5.setCell (aA gb (ia*2)) (iI y.m)).setCell (aA gb (ia*2+1)) (iI y.f)).drew).ownsRow wq.heap.size 161 2 (.slice (some ⟨gb,0,none⟩) p.os.length c4) p.os.length (bA (p.os.set ia y))):=by
      exact ⟨aq (wF (wF iK.u.1 iK.u.2 _ _) (zt iK.u.2 QD.u.1 _) _ _) (xZ _).drew,aq (DX iK.u.2 QD.u.1 _ _) (xZ _).drew⟩
     go_upto_region 13 with fail;go_still_tail 11,af;change wpList _ _ _ _ _ W5.drew;go_upto_region 14 with fail;clear xj Av IG Ea td iK iN y0 y1 xl Ho g0 g1 g2 q0 q1 t3 PQ a3 u0 u1;generalize ((W5.setCell (aA gb (ia*2)) (iI y.m)).setCell (aA gb (ia*2+1)) (iI y.f)).drew=W7 at*
     have FY:=Jw fF.u.2 (ib*2);have hj1:=Jw fF.u.2 (ib*2+1);have aoR:ib<(p.os.set ia y).length:=by rw [BX];exact RW
     obtain ⟨b2,o2,y2,OJ,-,si,v0,v1⟩:=Dt (Rd.own fF.u.2) RW;injection OJ with OJ;injection OJ with vG ep;subst vG ep;rw [lM] at v0 v1;have HY2:=hY si;clear si aoR;have g2:W7.cell? (aA (w.z+1) 2)=some (iI ib):=HE1.u.cv 2 TU.u.2
     have q0:=IW.u.ck 0;have q1:=IW.u.ck 1;have t3:=Ob.u.ck 3;have dG:Hid (Ext w ((W7.setCell (aA gb (ib*2)) (iI x.m)).setCell (aA gb (ib*2+1)) (iI x.f))):=(eQ.u.setCell (p:=(aA gb (ib*2))) (by show w.heap.size<=gb;omega) _).setCell (p:=(aA gb (ib*2+1))) (by show w.heap.size<=gb;omega) _;have fV:=hY ((AW.u.bX (p:=(aA gb (ib*2))) (by show w.heap.size+1+1≠gb;omega) (iI x.m)).bX (p:=(aA gb (ib*2+1))) (by show w.heap.size+1+1≠gb;omega) (iI x.f));have lq:=hY ((Ob.u.bX (p:=(aA gb (ib*2))) (by show w3.heap.size≠gb;omega) (iI x.m)).bX (p:=(aA gb (ib*2+1))) (by show w3.heap.size≠gb;omega) (iI x.f));have km:=hY (lQ (wF (wF fF.u.1 fF.u.2 (ib*2) (iI x.m)) (zt fF.u.2 HY2.u x.m) (ib*2+1) (iI x.f)) (DX fF.u.2 HY2.u x.m x.f));go_upto_region 20 with fail;clear HE1 AW Ob IW fF eQ FY hj1 g2 q0 q1 t3 v0 v1;generalize (W7.setCell (aA gb (ib*2)) (iI x.m)).setCell (aA gb (ib*2+1)) (iI x.f)=W6 at*
     have k0:=lq.u.cell 0;have k1:=lq.u.cell 1;have k2:=lq.u.cell 2;have k3:=lq.u.cell 3;obtain ⟨⟨d0,d1,d2,d3⟩,z0,z1,z2,z3⟩:=aB fV.u;have BC:=hY (fV.u.bP (iI p.n) (iI p.ph) (.slice A3 p.ts.length c3) (.slice (some ⟨gb,0,none⟩) p.os.length c4));have mJ:=hY (br (g:=w.heap.size+1+1) dG.u aa (iI p.n) (iI p.ph) (.slice A3 p.ts.length c3) (.slice (some ⟨gb,0,none⟩) p.os.length c4));have kN:=hY (lQ (jc (km.u.1) (g:=w.heap.size+1+1) WV (iI p.n) (iI p.ph) (.slice A3 p.ts.length c3) (.slice (some ⟨gb,0,none⟩) p.os.length c4)) (jc (km.u.2) (g:=w.heap.size+1+1) WV (iI p.n) (iI p.ph) (.slice A3 p.ts.length c3) (.slice (some ⟨gb,0,none⟩) p.os.length c4)));clear fV lq dG km;go_wp2;refine bR (v:=.tuple #[.agg #[iI p.n,iI p.ph,.slice A3 p.ts.length c3,.slice (some ⟨gb,0,none⟩) p.os.length c4],.bool true]) ?_ rfl ?_
     rotate_left
     ·rw [HV.u]
      exact ⟨⟨_,rfl,th.mk4 (p:=⟨p.n,p.ph,p.ts,(p.os.set ia y).set ib x⟩) (aC kN.u.1 aa) (aC kN.u.2 aa)⟩,mJ.u⟩
     ·exact bF rfl _ _ _ _ _ _ _ rfl rfl BC.u underlying156 rfl af
   ·skip;have VA:g.k=9:=sU e9
    obtain ⟨b1,o1,y,OI,aoQ,hy,u0,u1⟩:=Dt (iL.u.ext iN.u) RW;injection OI with OI;injection OI with mS eF;subst mS eF;have hyo:=FR.u.o y (lG hy);have hoB:iq p.os g.b=y:=by rw [TU.u.2];exact Bt hy
    have HYA:=hY (lQ hy hoB);clear hy hoB;obtain ⟨b2,o2,y2,OJ,-,si,v0,v1⟩:=Dt (Rd.own iK.u.2) RW;injection OJ with OJ;injection OJ with vG ep;subst vG ep;obtain rfl:y=y2:=by have:=HYA.u.1;rw [si] at this;cases this;rfl
    clear si;rw [lM] at v0 v1;have FY:=PQ (ib*2);have hj1:=PQ (ib*2+1);have a3:=xj.u.ck 3;have HV:Hid (eu p g=some ⟨p.n,p.ph,p.ts,p.os.set ib ⟨(bits .xor .i64 x.m y.m),(bits .xor .i64 x.f y.f)⟩⟩):=by
     unfold Hid eu;rw [aK Kv.u,aK aa,aX VA,QD.u.2,HYA.u.2,TU.u.2];rfl
    go_upto_region 11 with fail;have eQ:=hY (iN.u.alloc (cO #[iI y.m,iI y.f] 161));have HE1:=hY (Av.u.alloc (cO #[iI y.m,iI y.f] 161));have AW:=hY (IG.u.alloc (cO #[iI y.m,iI y.f] 161));have Ob:=hY (Ea.u.alloc (cO #[iI y.m,iI y.f] 161));have IW:=hY (td.u.alloc (cO #[iI y.m,iI y.f] 161));have TV:=hY (ay.new W5 161 #[iI y.m,iI y.f]);have fF:=hY (lQ (iK.u.1.alloc (cO #[iI y.m,iI y.f] 161)) (iK.u.2.alloc (cO #[iI y.m,iI y.f] 161)));have ajP:gb<W5.heap.size:=by have:=(iK.u.2.lt gb rfl).2;exact this
    have v0':(W5.alloc (cO #[iI y.m,iI y.f] 161)).cell? (aA gb (ib*2))=some (iI y.m):=((xZ W5).alloc _).cell (p:=(aA gb (ib*2))) ajP|>.trans v0
    have v1':(W5.alloc (cO #[iI y.m,iI y.f] 161)).cell? (aA gb (ib*2+1))=some (iI y.f):=((xZ W5).alloc _).cell (p:=(aA gb (ib*2+1))) ajP|>.trans v1
    have hj:∀j,(W5.alloc (cO #[iI y.m,iI y.f] 161)).frozen? (aA gb j)=false:=Jw fF.u.2;clear xj Av IG Ea td iK iN y0 y1 xl Ho g0 g1 g2 q0 q1 t3 PQ v0 v1 FY hj1 u0 u1 a3;generalize hW7:W5.alloc (cO #[iI y.m,iI y.f] 161)=W7 at*
    clear hW7;have FY:=hj (ib*2);have hj1:=hj (ib*2+1);have g2:W7.cell? (aA (w.z+1) 2)=some (iI ib):=HE1.u.cv 2 TU.u.2
    have q0:=IW.u.ck 0;have q1:=IW.u.ck 1;have e0:=TV.u.ck 0;have e1':=TV.u.ck 1;have t3:=Ob.u.ck 3;have dG:Hid (Ext w ((W7.setCell (aA gb (ib*2)) (iI (bits .xor .i64 x.m y.m))).setCell (aA gb (ib*2+1)) (iI (bits .xor .i64 x.f y.f)))):=(eQ.u.setCell (p:=(aA gb (ib*2))) (by show w.heap.size<=gb;omega) _).setCell (p:=(aA gb (ib*2+1))) (by show w.heap.size<=gb;omega) _;have fV:=hY ((AW.u.bX (p:=(aA gb (ib*2))) (by show w.heap.size+1+1≠gb;omega) (iI (bits .xor .i64 x.m y.m))).bX (p:=(aA gb (ib*2+1))) (by show w.heap.size+1+1≠gb;omega) (iI (bits .xor .i64 x.f y.f)));have lq:=hY ((Ob.u.bX (p:=(aA gb (ib*2))) (by show w3.heap.size≠gb;omega) (iI (bits .xor .i64 x.m y.m))).bX (p:=(aA gb (ib*2+1))) (by show w3.heap.size≠gb;omega) (iI (bits .xor .i64 x.f y.f)));have km:=hY (lQ (wF (wF fF.u.1 fF.u.2 (ib*2) (iI (bits .xor .i64 x.m y.m))) (zt fF.u.2 HYA.u.1 (bits .xor .i64 x.m y.m)) (ib*2+1) (iI (bits .xor .i64 x.f y.f))) (DX fF.u.2 HYA.u.1 (bits .xor .i64 x.m y.m) (bits .xor .i64 x.f y.f)));go_upto_region 20 with fail;clear HE1 AW Ob IW TV fF eQ v0' v1' hj FY hj1 g2 q0 q1 e0 e1' t3;generalize (W7.setCell (aA gb (ib*2)) (iI (bits .xor .i64 x.m y.m))).setCell (aA gb (ib*2+1)) (iI (bits .xor .i64 x.f y.f))=W6 at*
    have k0:=lq.u.cell 0;have k1:=lq.u.cell 1;have k2:=lq.u.cell 2;have k3:=lq.u.cell 3;obtain ⟨⟨d0,d1,d2,d3⟩,z0,z1,z2,z3⟩:=aB fV.u;have BC:=hY (fV.u.bP (iI p.n) (iI p.ph) (.slice A3 p.ts.length c3) (.slice (some ⟨gb,0,none⟩) p.os.length c4));have mJ:=hY (br (g:=w.heap.size+1+1) dG.u aa (iI p.n) (iI p.ph) (.slice A3 p.ts.length c3) (.slice (some ⟨gb,0,none⟩) p.os.length c4));have kN:=hY (lQ (jc (km.u.1) (g:=w.heap.size+1+1) WV (iI p.n) (iI p.ph) (.slice A3 p.ts.length c3) (.slice (some ⟨gb,0,none⟩) p.os.length c4)) (jc (km.u.2) (g:=w.heap.size+1+1) WV (iI p.n) (iI p.ph) (.slice A3 p.ts.length c3) (.slice (some ⟨gb,0,none⟩) p.os.length c4)));clear fV lq dG km;go_wp2;refine bR (v:=.tuple #[.agg #[iI p.n,iI p.ph,.slice A3 p.ts.length c3,.slice (some ⟨gb,0,none⟩) p.os.length c4],.bool true]) ?_ rfl ?_
    rotate_left
    ·rw [HV.u]
     exact ⟨⟨_,rfl,th.mk4 (p:=⟨p.n,p.ph,p.ts,p.os.set ib ⟨(bits .xor .i64 x.m y.m),(bits .xor .i64 x.f y.f)⟩⟩) (aC kN.u.1 aa) (aC kN.u.2 aa)⟩,mJ.u⟩
    ·exact bF rfl _ _ _ _ _ _ _ rfl rfl BC.u underlying156 rfl af
  ·skip;have eM:g.k=1:=sU e1
   have HV:Hid (eu p g=some ⟨p.n,p.ph,p.ts,p.os.set ia ⟨x.m,1 - x.f⟩⟩):=by
    unfold Hid eu;rw [aK Kv.u,aX eM,QD.u.2,TU.u.1];rfl
   have ZC:IntKind.i64.wrap (1 - x.f)=1 - x.f:=lH _ aa;have hw2:wrap64 (1 - x.f)=1 - x.f:=bo
   have dG:Hid (Ext w (W5.setCell (aA gb (ia*2+1)) (iI (1 - x.f)))):=iN.u.setCell (p:=(aA gb (ia*2+1))) (by show w.heap.size<=gb;omega) _;have fV:=hY (IG.u.bX (p:=(aA gb (ia*2+1))) (by show w.heap.size+1+1≠gb;omega) (iI (1 - x.f)));have lq:=hY (Ea.u.bX (p:=(aA gb (ia*2+1))) (by show w3.heap.size≠gb;omega) (iI (1 - x.f)));have km:=hY (lQ (wF iK.u.1 iK.u.2 (ia*2+1) (iI (1 - x.f))) (SB iK.u.2 QD.u.1 (1 - x.f)));go_upto_region 20 with fail;clear xj Av IG Ea td iK iN y0 y1 xl Ho g0 g1 g2 q0 q1 t3 PQ;generalize W5.setCell (aA gb (ia*2+1)) (iI (1 - x.f))=W6 at*
   have k0:=lq.u.cell 0;have k1:=lq.u.cell 1;have k2:=lq.u.cell 2;have k3:=lq.u.cell 3;obtain ⟨⟨d0,d1,d2,d3⟩,z0,z1,z2,z3⟩:=aB fV.u;have BC:=hY (fV.u.bP (iI p.n) (iI p.ph) (.slice A3 p.ts.length c3) (.slice (some ⟨gb,0,none⟩) p.os.length c4));have mJ:=hY (br (g:=w.heap.size+1+1) dG.u aa (iI p.n) (iI p.ph) (.slice A3 p.ts.length c3) (.slice (some ⟨gb,0,none⟩) p.os.length c4));have kN:=hY (lQ (jc (km.u.1) (g:=w.heap.size+1+1) WV (iI p.n) (iI p.ph) (.slice A3 p.ts.length c3) (.slice (some ⟨gb,0,none⟩) p.os.length c4)) (jc (km.u.2) (g:=w.heap.size+1+1) WV (iI p.n) (iI p.ph) (.slice A3 p.ts.length c3) (.slice (some ⟨gb,0,none⟩) p.os.length c4)));clear fV lq dG km;go_wp2;refine bR (v:=.tuple #[.agg #[iI p.n,iI p.ph,.slice A3 p.ts.length c3,.slice (some ⟨gb,0,none⟩) p.os.length c4],.bool true]) ?_ rfl ?_
   rotate_left
   ·rw [HV.u]
    exact ⟨⟨_,rfl,th.mk4 (p:=⟨p.n,p.ph,p.ts,p.os.set ia ⟨x.m,1 - x.f⟩⟩) (aC kN.u.1 aa) (aC kN.u.2 aa)⟩,mJ.u⟩
   ·exact bF rfl _ _ _ _ _ _ _ rfl rfl BC.u underlying156 rfl af
end Go.Proofs.YtiajdbllccmokaaGreatDoor
