import Derived.Test.YtodhjgngkkcjgaaGreatDoorXq
import Derived.Test.YtodhjgngkkcjgaaGreatDoorXn
import Derived.Test.YtodhjgngkkcjgaaGreatDoorXo
import Derived.Test.YtodhjgngkkcjgaaGreatDoorXp
namespace Go.Proofs.YtodhjgngkkcjgaaGreatDoor
open Go.ChangeShapes Go.WideShapes Go.ChangeAt Go.RowKit Go.Deep Go.Proofs.Tryz
set_option linter.unusedVariables false
set_option linter.unusedSimpArgs false
set_option maxRecDepth 100000
set_option maxHeartbeats 16000000
abbrev ppZ:Value:=.agg #[iI 0,iI 0,.slice none 0 0,.slice none 0 0]
def uM (e:Ending) (w w':World) (q:Option Pp):Prop:=match q with
 |none=>e=.returned (.tuple #[ppZ,.bool false])
 |some q=>∃v,e=.returned (.tuple #[v,.bool true])/\wN w' w.heap.size v q
theorem MD {p:Pp} {g:Gt} (h:vg g p.n=false):eQ p g=none:=by unfold eQ;rw [h];rfl
theorem Us.vg1 {p:Pp} {g:Gt} {k:Nat} (h:Us p k) (hv:vg g p.n=true):¬(vg g p.n && ((p.os.length:Int)==p.n))=false:=by rw [hv,h.l];simp
theorem wN.mk4 {w:World} {B:Nat} {A1 A2:OA} {c1 c2 l1 l2:Nat} {p:Pp} (h1:w.ownsRow B 243 2 (.slice A1 l1 c1) l1 (aQ p.ts)) (h2:w.ownsRow B 227 2 (.slice A2 l2 c2) l2 (bF p.os)):wN w B (.agg #[iI p.n,iI p.ph,.slice A1 l1 c1,.slice A2 l2 c2]) p:=by
 have e1:p.ts.length=l1:=(Rd.own h1).len Pt.aG aa;have e2:p.os.length=l2:=(Rd.own h2).len Af.aG aa;subst e1 e2
 exact ⟨A1,c1,A2,c2,rfl,h1,h2⟩
theorem Ay {P:Prop} (h:P:=by
 rw [e1];simp only [bF,jQ,Af.cells,DI,lN,TE,TT,true_and]
 exact ih i (sU hi)):P:=h
theorem IQ {w:World} {B g n c:Nat} {xs:List Af} {i:Nat} {x:Af} (h:w.ownsRow B 227 2 (.slice (some ⟨g,0,none⟩) n c) n (bF xs)) (hx:xs[i]?=some x) (u v:Int):
  ((w.setCell (aA g (i*2)) (iI u)).setCell (aA g (i*2+1)) (iI v)).ownsRow B 227 2 (.slice (some ⟨g,0,none⟩) n c) n (bF (xs.set i ⟨u,v⟩)):=by
 have h1:=((h.stored (i*2) (iI u)).1.stored (i*2+1) (iI v)).1;have e:∀(xs:List Af) (i:Nat),i<xs.length->((bF xs).set (i*2) (iI u)).set (i*2+1) (iI v)=bF (xs.set i ⟨u,v⟩):=by
  intro xs
  induction xs with
  |nil=>intro i hi;simp at hi
  |cons y ys ih=>
   intro i hi
   cases i with
   |zero=>rfl
   |succ i=>
    have e1:(i+1)*2=i*2+1+1:=aa
    have e2:(i+1)*2+1=i*2+1+1+1:=aa
    exact Ay
 rw [e xs i (gu.1 hx).1] at h1
 exact h1
theorem Zz {w:World} {B g n c:Nat} {xs:List Af} {i:Nat} {x:Af} (h:w.ownsRow B 227 2 (.slice (some ⟨g,0,none⟩) n c) n (bF xs)) (hx:xs[i]?=some x) (v:Int):
  (w.setCell (aA g (i*2+1)) (iI v)).ownsRow B 227 2 (.slice (some ⟨g,0,none⟩) n c) n (bF (xs.set i ⟨x.m,v⟩)):=by
 have h1:=(h.stored (i*2+1) (iI v)).1;have e:∀(xs:List Af) (i:Nat),xs[i]?=some x->(bF xs).set (i*2+1) (iI v)=bF (xs.set i ⟨x.m,v⟩):=by
  intro xs
  induction xs with
  |nil=>intro i hi;simp at hi
  |cons y ys ih=>
   intro i hi
   cases i with
   |zero=>simp at hi;subst hi;rfl
   |succ i=>
    have e1:(i+1)*2+1=i*2+1+1+1:=aa
    exact Ay
 rw [e xs i hx] at h1
 exact h1
theorem ade {w:World} {B B' n m:Nat} {v u:Value} {xs:List Pt} {ys:List Af} {g k:Nat} (h:w.ownsRow B 243 2 v n (aQ xs)) (h':w.ownsRow B' 227 2 u m (bF ys)) (e1:v.ownBlock=some g) (e2:u.ownBlock=some k):g≠k:=by
 rintro rfl;rcases h.2 with ⟨rfl,_⟩|⟨g1,c1,apt,rfl,_,hh1,_⟩
 ·cases e1
 rcases h'.2 with ⟨rfl,_⟩|⟨g2,c2,auF,rfl,_,Lt,_⟩
 ·cases e2
 have d1:g1=g:=by simpa [Value.ownBlock] using e1
 have d2:g2=g:=by simpa [Value.ownBlock] using e2
 subst d1 d2;rw [hh1] at Lt;injection Lt with Lt;injection Lt with _ Lt;revert Lt;decide
theorem AB {w:World} {B B' n m c g:Nat} {v:Value} {xs:List Pt} {ys:List Af} (h:w.ownsRow B 243 2 v n (aQ xs)) (h':w.ownsRow B' 227 2 (.slice (some ⟨g,0,none⟩) m c) m (bF ys)) (j:Nat) (u:Value):
  (w.setCell (aA g j) u).ownsRow B 243 2 v n (aQ xs):=by
 refine h.kept (h'.stored j u).2 ?_
 cases hv:v.ownBlock with
 |none=>exact .inl rfl
 |some k=>
  right;intro e1;injection e1 with e1
  exact ade h h' hv rfl e1
theorem kb {w:World} {B e size n:Nat} {v:Value} {xs:List Value} (h:w.ownsRow B e size v n xs) {g:Nat} (hg:g<B) (a b c d:Value):(bR w g a b c d).ownsRow B e size v n xs:=
 bo (bo (bo (bo h (p:=(aA g 0)) hg _) (p:=(aA g 1)) hg _) (p:=(aA g 2)) hg _) (p:=(aA g 3)) hg _
theorem OK {w:World} {B e size g n c:Nat} {xs:List Value} (h:w.ownsRow B e size (.slice (some ⟨g,0,none⟩) n c) n xs) (j:Nat):w.frozen? (aA g j)=false:=by
 rcases h.2 with ⟨h0,h1⟩|⟨gb,cap,cur,hv,hB,hh,-⟩
 ·cases h0
 ·injection hv with hv;injection hv with hv;injection hv with hv;subst hv
  exact CH w g j cur e hh
theorem Df {w:World} {B g n c:Nat} {xs:List Af} {i:Nat} {x:Af} (h:w.ownsRow B 227 2 (.slice (some ⟨g,0,none⟩) n c) n (bF xs)) (hx:xs[i]?=some x) (u:Int):
  (w.setCell (aA g (i*2)) (iI u)).ownsRow B 227 2 (.slice (some ⟨g,0,none⟩) n c) n (bF (xs.set i ⟨u,x.f⟩)):=by
 have h1:=(h.stored (i*2) (iI u)).1;have e:∀(xs:List Af) (i:Nat),xs[i]?=some x->(bF xs).set (i*2) (iI u)=bF (xs.set i ⟨u,x.f⟩):=by
  intro xs
  induction xs with
  |nil=>intro i hi;simp at hi
  |cons y ys ih=>
   intro i hi
   cases i with
   |zero=>simp at hi;subst hi;rfl
   |succ i=>
    have e1:(i+1)*2=i*2+1+1:=aa
    exact Ay
 rw [e xs i hx] at h1
 exact h1
theorem IU {w:World} {B e size n m c:Nat} {xs:List Value} {gb:Nat} (h:w.ownsRow B e size (.slice (some ⟨gb,0,none⟩) m c) n xs) {g:Nat} (hg:gb≠g) (j:Nat) (u:Value):(w.setCell (aA g j) u).ownsRow B e size (.slice (some ⟨gb,0,none⟩) m c) n xs:=by
 refine h.kept (row:=some g) ⟨rfl,rfl,rfl,ag,fun k _ hk=>Bo w ⟨g,j,none⟩ k u (fun e=>hk (by simp [e]))⟩ ?_;right;intro e1;injection e1 with e1
 exact hg e1
theorem IV {P:Prop} (h:P:=by
 go_wp2;refine bJ (v:=.tuple #[.agg jB,.bool false]) ?_ rfl ?_
 rotate_left
 ·rw [HV.u]
  exact ⟨rfl,fD.u⟩
 ·exact aR rfl _ _ _ _ _ _ _ rfl rfl nT.u yu rfl af):P:=h
theorem sI (v:Value) (p:Pp) (g:Gt) (k:Nat) (w:World) (h:RI w w.heap.size v p) (sj:Us p k) (hk:k<=100000000000):
  Calls prog 180 #[v,g.val] w fun e w'=>uM e w w' (eQ p g)/\Ext w w':=by
 have HP:=hY h;obtain ⟨A1,c1,A2,c2,rfl,kG,jk,qJ,zm,xW,Ls⟩:=h;have hlO:=sj.l;have hnO:=sj.n;have UK:=sj.tl;have Ln:=hY sj;clear sj;have mC:=hY kG;have jN:=hY jk;clear kG jk;have qc:Hid (Ext w (((w.alloc (cO #[iI p.n,iI p.ph,.slice A1 p.ts.length c1,.slice A2 p.os.length c2] 222)).alloc (cO (gA g) 39)).alloc (cO jB 222))):=fT
 have bW:Hid (au (((w.alloc (cO #[iI p.n,iI p.ph,.slice A1 p.ts.length c1,.slice A2 p.os.length c2] 222)).alloc (cO (gA g) 39)).alloc (cO jB 222)) w.heap.size 222 #[iI p.n,iI p.ph,.slice A1 p.ts.length c1,.slice A2 p.os.length c2]):=((au.new w _ _).alloc _).alloc _;have jI:Hid (au (((w.alloc (cO #[iI p.n,iI p.ph,.slice A1 p.ts.length c1,.slice A2 p.os.length c2] 222)).alloc (cO (gA g) 39)).alloc (cO jB 222)) (w.heap.size+1) 39 (gA g)):=(au.newAt ag).alloc _;have dv:Hid (au (((w.alloc (cO #[iI p.n,iI p.ph,.slice A1 p.ts.length c1,.slice A2 p.os.length c2] 222)).alloc (cO (gA g) 39)).alloc (cO jB 222)) (w.heap.size+1+1) 222 jB):=au.newAt ag;go_enter func180,ntmps180;go_upto_region 1 with fail;generalize ((w.alloc (cO #[iI p.n,iI p.ph,.slice A1 p.ts.length c1,.slice A2 p.os.length c2] 222)).alloc (cO (gA g) 39)).alloc (cO jB 222)=W at*
 obtain ⟨⟨a0,a1,a2,a3⟩,-⟩:=aB bW.u;obtain ⟨⟨g0,g1,g2,g3⟩,-⟩:=aB jI.u
 cases hv:vg g p.n
 ·have HV:=hY (MD hv);go_wp2_with fail;refine (bn g p.n _).mono ?_;rintro e wq ⟨rfl,OL⟩;rw [hv];obtain ⟨⟨d0,d1,d2,d3⟩,z0,z1,z2,z3⟩:=aB (dv.u.ext OL);have nT:Hid (au (bR wq (w.heap.size+1+1) (iI 0) (iI 0) (nS) (nS)) (w.heap.size+1+1) 222 jB):=(dv.u.ext OL).bR _ _ _ _;have fD:Hid (Ext w (bR wq (w.heap.size+1+1) (iI 0) (iI 0) (nS) (nS))):=aW (g:=w.heap.size+1+1) (qc.u.trans OL) aa _ _ _ _;clear OL hv
  exact IV
 ·have oU:=hY (Ln.u.vg1 hv);obtain ⟨-,UL,gV,eT,sW,-⟩:=qM hv;obtain ⟨ia,hia⟩:=lD gV.1;obtain ⟨ib,hib⟩:=lD eT.1;have hla:ia<p.os.length:=aa
  have YX:ib<p.os.length:=aa
  have HGI:=hY (lQ hia hib);clear hia hib gV eT sW;go_wp2_with fail;refine (bn g p.n _).mono ?_;rintro e wq ⟨rfl,OL⟩;rw [hv];clear hv;have HPq:=HP.u.ext (qc.u.trans OL);have HXq:=hY (qc.u.trans OL);have ala:=hY (bW.u.ext OL);have alb:=hY (jI.u.ext OL);have alc:=hY (dv.u.ext OL);have hsq:=alc.u.lt;clear a0 a1 a2 a3 g0 g1 g2 g3;obtain ⟨⟨a0,a1,a2,a3⟩,-⟩:=aB ala.u;obtain ⟨⟨g0,g1,g2,g3⟩,-⟩:=aB alb.u;clear OL;go_wp2_with fail;refine (RM _ p _ HPq aa aa).mono ?_;rintro e w3 ⟨⟨v3,rfl,A3,c3,A4,c4,rfl,ie,uJ⟩,bO⟩;clear HPq a0 a1 a2 a3 g0 g1 g2 g3;have fD:Hid (Ext w (w3.alloc (cO #[iI p.n,iI p.ph,.slice A3 p.ts.length c3,.slice A4 p.os.length c4] 222))):=(HXq.u.trans bO).alloc _;have HC0:=hY ((ala.u.ext bO).alloc (cO #[iI p.n,iI p.ph,.slice A3 p.ts.length c3,.slice A4 p.os.length c4] 222));have Mq:=hY ((alb.u.ext bO).alloc (cO #[iI p.n,iI p.ph,.slice A3 p.ts.length c3,.slice A4 p.os.length c4] 222));have Qf:=hY ((alc.u.ext bO).alloc (cO #[iI p.n,iI p.ph,.slice A3 p.ts.length c3,.slice A4 p.os.length c4] 222));have HC3:=hY (au.new w3 222 #[iI p.n,iI p.ph,.slice A3 p.ts.length c3,.slice A4 p.os.length c4]);have apu:∀g,(Value.slice A3 p.ts.length c3).ownBlock=some g->wq.heap.size<=g/\g<w3.heap.size:=fun g hg=>ie.lt g hg
  have apv:∀g,(Value.slice A4 p.os.length c4).ownBlock=some g->wq.heap.size<=g/\g<w3.heap.size:=fun g hg=>uJ.lt g hg
  have mf:=hY (lQ (ie.alloc (cO #[iI p.n,iI p.ph,.slice A3 p.ts.length c3,.slice A4 p.os.length c4] 222)) (uJ.alloc (cO #[iI p.n,iI p.ph,.slice A3 p.ts.length c3,.slice A4 p.os.length c4] 222)));have hs3:=bO.size;clear ie uJ bO ala alb alc HXq bW jI dv qc;have g0:=Mq.u.ck 0;have bZ:=hY (lQ apu apv);clear apu apv;go_upto_region 4 with fail;have hw3:(w3.alloc (cO #[iI p.n,iI p.ph,.slice A3 p.ts.length c3,.slice A4 p.os.length c4] 222)).heap.size=w3.heap.size+1:=ag
  generalize (w3.alloc (cO #[iI p.n,iI p.ph,.slice A3 p.ts.length c3,.slice A4 p.os.length c4] 222))=W3 at*
  go_wp2_with fail;refine (bI g.k _).mono ?_;rintro e wr ⟨rfl,rfl⟩;clear g0;obtain ⟨b,o,x,rfl,-,hx,x0,x1⟩:=Hp (jN.u.ext fD.u) hla;have uN:=Ln.u.o x (lG hx);have hoA:jq p.os g.a=x:=by rw [HGI.u.1];exact Fe hx
  have WY:=hY (lQ hx hoA);clear hx hoA;have a3:=HC0.u.ck 3;have g1:W3.cell? (aA (w.z+1) 1)=some (iI ia):=Mq.u.cv 1 HGI.u.1
  have g0:=Mq.u.ck 0;go_upto_region 7 with fail;have jP:Hid (Ext w (W3.alloc (cO #[iI x.m,iI x.f] 227))):=fD.u.alloc _;have Bg:=hY (HC0.u.alloc (cO #[iI x.m,iI x.f] 227));have Eb:=hY (Mq.u.alloc (cO #[iI x.m,iI x.f] 227));have NN:=hY (Qf.u.alloc (cO #[iI x.m,iI x.f] 227));have IW:=hY (HC3.u.alloc (cO #[iI x.m,iI x.f] 227));have wG:Hid (au (W3.alloc (cO #[iI x.m,iI x.f] 227)) (w3.heap.size+1) 227 #[iI x.m,iI x.f]):=au.newAt hw3.symm;have jL:=hY (lQ (mf.u.1.alloc (cO #[iI x.m,iI x.f] 227)) (mf.u.2.alloc (cO #[iI x.m,iI x.f] 227)));clear fD HC0 Mq Qf HC3 mf g0 g1 a3 x0 x1;generalize (W3.alloc (cO #[iI x.m,iI x.f] 227))=W5 at*
  have hA4:∃gb,A4=some ⟨gb,0,none⟩/\wq.heap.size<=gb/\gb<w3.heap.size/\∀j,W5.frozen? (aA gb j)=false:=by
   rcases jL.u.2.2 with ⟨h0,h1⟩|⟨gb,cap,cur,hv,hB,hh,-⟩
   ·omega
   ·injection hv with hv;subst hv;have:=bZ.u.2 gb rfl
    exact ⟨gb,rfl,this.1,this.2,fun j=>CH W5 gb j cur _ hh⟩
  obtain ⟨gb,rfl,aBf,aBg,VL⟩:=hA4;obtain ⟨b',o',x',hbo,-,sr,y0,y1⟩:=Hp (Rd.own jL.u.2) hla;injection hbo with hbo;injection hbo with rJ ho';subst rJ ho';obtain rfl:x=x':=by have:=WY.u.1;rw [sr] at this;cases this;rfl
  clear sr;rw [lM] at y0 y1;have KX:=VL (ia*2);have WZ:=VL (ia*2+1);have g0:=Eb.u.ck 0;have g1:W5.cell? (aA (w.z+1) 1)=some (iI ia):=Eb.u.cv 1 HGI.u.1
  have g2:W5.cell? (aA (w.z+1) 2)=some (iI ib):=Eb.u.cv 2 HGI.u.2
  have q0:=wG.u.ck 0;have q1:=wG.u.ck 1;have t3:=IW.u.ck 3;have han:(ia:Int)<p.n:=aa
  have hbn:(ib:Int)<p.n:=aa
  cases e1:(g.k==1)
  ·cases e9:(g.k==9)
   ·have et:¬g.k=1:=sU e1
    have hk9:¬g.k=9:=sU e9
    cases e11:(g.k==11)
    ·have adh:¬g.k=11:=sU e11
     by_cases ZA:0<bH g.k
     ·have hrd:decide (bH g.k>0)=true:=sU ZA
      cases ef:(x.f==0)
      ·skip;have aBh:x.f=1:=by have hne:¬x.f=0:=(sU ef);omega
       have HV:Hid (eQ p g=some ⟨p.n,((p.ph+bH g.k) % 8),fM p.ts x.m ((-(bH g.k)) % 8),p.os⟩):=by
        unfold Hid eQ;rw [aM oU.u,aM et,aM hk9,aM adh,aY ZA,WY.u.2,aM aa]
       have hrb:=(BM g.k).2;have hph:=Ln.u.ph;have a1:=Bg.u.ck 1;have UM:IntKind.i64.wrap (p.ph+bH g.k)=p.ph+bH g.k:=lH _ aa;have OM:wrap64 (p.ph+bH g.k)=p.ph+bH g.k:=bk
       have k1:=IW.u.ck 1;have f1:=IW.u.frozen 1;go_wp2_with fail;refine (eZ (p.ph+bH g.k) _ aa).mono ?_;rintro e w5 ⟨rfl,rfl⟩;have fz:Hid (Ext w (W5.setCell (aA w3.heap.size 1) (iI ((p.ph+bH g.k) % 8)))):=jP.u.setCell (p:=(aA w3.heap.size 1)) (by show w.heap.size<=w3.heap.size;omega) _;have HE0:=hY (Bg.u.cB (p:=(aA w3.heap.size 1)) (by show w.heap.size≠w3.heap.size;omega) (iI ((p.ph+bH g.k) % 8)));have Qd:=hY (NN.u.cB (p:=(aA w3.heap.size 1)) (by show w.heap.size+1+1≠w3.heap.size;omega) (iI ((p.ph+bH g.k) % 8)));have Uu:=hY (IW.u.aU 1 (iI ((p.ph+bH g.k) % 8)));have Oc:=hY (wG.u.cB (p:=(aA w3.heap.size 1)) (by show w3.heap.size+1≠w3.heap.size;omega) (iI ((p.ph+bH g.k) % 8)));have gH:=hY (IU jL.u.2 (g:=w3.heap.size) (by show gb≠w3.heap.size;omega) 1 (iI ((p.ph+bH g.k) % 8)));have h5s:w3.heap.size<(W5.setCell (aA w3.heap.size 1) (iI ((p.ph+bH g.k) % 8))).heap.size:=by have:=IW.u.lt;simpa using this
       go_upto_region 19 with fail;clear Bg Eb NN IW wG jL jP y0 y1 KX WZ g0 g1 g2 q0 q1 t3 VL a1 k1 f1;generalize W5.setCell (aA w3.heap.size 1) (iI ((p.ph+bH g.k) % 8))=W7 at*
       have aEQ:(fun wd=>wd.cell? (aA w.z 2)=some (.slice A1 p.ts.length c1)/\wd.cell? (aA (w3.z+1) 0)=some (iI x.m)) W7.drew:=⟨HE0.u.cell 2,Oc.u.cell 0⟩;refine dt (S:=(fun wd=>wd.cell? (aA w.z 2)=some (.slice A1 p.ts.length c1)/\wd.cell? (aA (w3.z+1) 0)=some (iI x.m))) af aEQ (fun aEQ=>?_);refine tq 0 ?_;refine tq 1 ?_;refine tq 2 ?_;refine tq 3 ?_;refine tq 4 ?_
       (refine jz (i:=5) (v:=iI (-(bH g.k))) rfl af af af (fun _ _ _ h=>h) (Or.inl ⟨ah,?_⟩) aL ?_;· (intro w hSw;(try dsimp only at hSw);go_simp;first|done|exact lH _ aa))
       (try refine pt ?_)
       refine o1 6 fun K hK=>?_
       go_simp;refine (eZ (-(bH g.k)) _ aa).mono ?_;rintro e w5 ⟨rfl,rfl⟩;refine ov hK aEQ fun aEQ=>?_
       refine o1 7 fun K hK=>?_
       go_simp;refine (Ip A1 p.ts.length c1 p.ts x.m ((-(bH g.k)) % 8) _ (mC.u.ext fz.u.drew) aa qJ (fun t ht=>(Ln.u.t t ht).2) aa xW).mono ?_;rintro e w6 ⟨⟨v6,rfl,vD⟩,oy⟩;obtain ⟨A6,c6,rfl,-⟩:=ak vD;refine ov hK ⟨(HE0.u.drew.ext oy).cell 2,(Oc.u.drew.ext oy).cell 0⟩ fun aEQ=>?_
       refine tq 8 ?_;have k2:=(Uu.u.drew.ext oy).ck 2;have f2:=(Uu.u.drew.ext oy).frozen 2;refine o1 9 fun K hK=>?_
       go_simp;refine ov hK ⟨((HE0.u.drew.ext oy).cB (p:=(aA w3.heap.size 2)) (by show w.heap.size≠w3.heap.size;omega) _).cell 2,((Oc.u.drew.ext oy).cB (p:=(aA w3.heap.size 2)) (by show w3.heap.size+1≠w3.heap.size;omega) _).cell 0⟩ fun aEQ=>?_
       refine dn ?_;have h5d:w3.heap.size<W7.drew.heap.size:=h5s;have dL:Hid (Ext w (w6.setCell (aA w3.heap.size 2) (.slice A6 (fM p.ts x.m ((-(bH g.k)) % 8)).length c6))):=(fz.u.drew.trans oy).setCell (p:=(aA w3.heap.size 2)) (by show w.heap.size<=w3.heap.size;omega) _;have dv:=hY ((Qd.u.drew.ext oy).cB (p:=(aA w3.heap.size 2)) (by show w.heap.size+1+1≠w3.heap.size;omega) (.slice A6 (fM p.ts x.m ((-(bH g.k)) % 8)).length c6));have nT:=hY ((Uu.u.drew.ext oy).aU 2 (.slice A6 (fM p.ts x.m ((-(bH g.k)) % 8)).length c6));have mn:=hY (lQ (bo (aC vD (lI _)) (p:=(aA w3.heap.size 2)) h5s (.slice A6 (fM p.ts x.m ((-(bH g.k)) % 8)).length c6)) (IU (aj gH.u ((xZ W7).drew.trans oy)) (g:=w3.heap.size) (by show gb≠w3.heap.size;omega) 2 (.slice A6 (fM p.ts x.m ((-(bH g.k)) % 8)).length c6)));clear HE0 Qd Uu Oc gH fz k2 f2 vD oy aEQ;generalize w6.setCell (aA w3.heap.size 2) (.slice A6 (fM p.ts x.m ((-(bH g.k)) % 8)).length c6)=W6 at*
       have k0:=nT.u.cell 0;have k1:=nT.u.cell 1;have k2:=nT.u.cell 2;have k3:=nT.u.cell 3;obtain ⟨⟨d0,d1,d2,d3⟩,z0,z1,z2,z3⟩:=aB dv.u;have Fm:=hY (dv.u.bR (iI p.n) (iI ((p.ph+bH g.k) % 8)) (.slice A6 (fM p.ts x.m ((-(bH g.k)) % 8)).length c6) (.slice (some ⟨gb,0,none⟩) p.os.length c4));have fP:=hY (aW (g:=w.heap.size+1+1) dL.u aa (iI p.n) (iI ((p.ph+bH g.k) % 8)) (.slice A6 (fM p.ts x.m ((-(bH g.k)) % 8)).length c6) (.slice (some ⟨gb,0,none⟩) p.os.length c4));have iD:=hY (lQ (kb (mn.u.1) (g:=w.heap.size+1+1) (oM h5d) (iI p.n) (iI ((p.ph+bH g.k) % 8)) (.slice A6 (fM p.ts x.m ((-(bH g.k)) % 8)).length c6) (.slice (some ⟨gb,0,none⟩) p.os.length c4)) (kb (mn.u.2) (g:=w.heap.size+1+1) hsq (iI p.n) (iI ((p.ph+bH g.k) % 8)) (.slice A6 (fM p.ts x.m ((-(bH g.k)) % 8)).length c6) (.slice (some ⟨gb,0,none⟩) p.os.length c4)));clear dv nT dL mn;go_wp2;refine bJ (v:=.tuple #[.agg #[iI p.n,iI ((p.ph+bH g.k) % 8),.slice A6 (fM p.ts x.m ((-(bH g.k)) % 8)).length c6,.slice (some ⟨gb,0,none⟩) p.os.length c4],.bool true]) ?_ rfl ?_
       rotate_left
       ·rw [HV.u]
        exact ⟨⟨_,rfl,wN.mk4 (p:=⟨p.n,((p.ph+bH g.k) % 8),fM p.ts x.m ((-(bH g.k)) % 8),p.os⟩) (aC iD.u.1 aa) (aC iD.u.2 aa)⟩,fP.u⟩
       ·exact aR rfl _ _ _ _ _ _ _ rfl rfl Fm.u yu rfl af
      ·skip;have auI:x.f=0:=sU ef
       have HV:Hid (eQ p g=some ⟨p.n,p.ph,fM p.ts x.m (bH g.k),p.os⟩):=by
        unfold Hid eQ;rw [aM oU.u,aM et,aM hk9,aM adh,aY ZA,WY.u.2,aY auI]
       have a2:=Bg.u.ck 2;go_wp2_with fail;refine (Ip A1 p.ts.length c1 p.ts x.m (bH g.k) _ (mC.u.ext jP.u) aa qJ (fun t ht=>(Ln.u.t t ht).2) (oM (BM g.k)) xW).mono ?_;rintro e w6 ⟨⟨v6,rfl,vD⟩,oy⟩;obtain ⟨A6,c6,rfl,-⟩:=ak vD;have k2:=(IW.u.ext oy).ck 2;have f2:=(IW.u.ext oy).frozen 2;have dL:Hid (Ext w (w6.setCell (aA w3.heap.size 2) (.slice A6 (fM p.ts x.m (bH g.k)).length c6))):=(jP.u.trans oy).setCell (p:=(aA w3.heap.size 2)) (by show w.heap.size<=w3.heap.size;omega) _;have dv:=hY ((NN.u.ext oy).cB (p:=(aA w3.heap.size 2)) (by show w.heap.size+1+1≠w3.heap.size;omega) (.slice A6 (fM p.ts x.m (bH g.k)).length c6));have nT:=hY ((IW.u.ext oy).aU 2 (.slice A6 (fM p.ts x.m (bH g.k)).length c6));have h5s:=IW.u.lt;have mn:=hY (lQ (bo (aC vD (lI _)) (p:=(aA w3.heap.size 2)) h5s (.slice A6 (fM p.ts x.m (bH g.k)).length c6)) (IU (aj jL.u.2 oy) (g:=w3.heap.size) (by show gb≠w3.heap.size;omega) 2 (.slice A6 (fM p.ts x.m (bH g.k)).length c6)));go_upto_region 20 with fail;clear Bg Eb NN IW wG jL jP y0 y1 KX WZ g0 g1 g2 q0 q1 t3 VL a2 k2 f2 vD oy;generalize w6.setCell (aA w3.heap.size 2) (.slice A6 (fM p.ts x.m (bH g.k)).length c6)=W6 at*
       have k0:=nT.u.cell 0;have k1:=nT.u.cell 1;have k2:=nT.u.cell 2;have k3:=nT.u.cell 3;obtain ⟨⟨d0,d1,d2,d3⟩,z0,z1,z2,z3⟩:=aB dv.u;have Fm:=hY (dv.u.bR (iI p.n) (iI p.ph) (.slice A6 (fM p.ts x.m (bH g.k)).length c6) (.slice (some ⟨gb,0,none⟩) p.os.length c4));have fP:=hY (aW (g:=w.heap.size+1+1) dL.u aa (iI p.n) (iI p.ph) (.slice A6 (fM p.ts x.m (bH g.k)).length c6) (.slice (some ⟨gb,0,none⟩) p.os.length c4));have iD:=hY (lQ (kb (mn.u.1) (g:=w.heap.size+1+1) aa (iI p.n) (iI p.ph) (.slice A6 (fM p.ts x.m (bH g.k)).length c6) (.slice (some ⟨gb,0,none⟩) p.os.length c4)) (kb (mn.u.2) (g:=w.heap.size+1+1) hsq (iI p.n) (iI p.ph) (.slice A6 (fM p.ts x.m (bH g.k)).length c6) (.slice (some ⟨gb,0,none⟩) p.os.length c4)));clear dv nT dL mn;go_wp2;refine bJ (v:=.tuple #[.agg #[iI p.n,iI p.ph,.slice A6 (fM p.ts x.m (bH g.k)).length c6,.slice (some ⟨gb,0,none⟩) p.os.length c4],.bool true]) ?_ rfl ?_
       rotate_left
       ·rw [HV.u]
        exact ⟨⟨_,rfl,wN.mk4 (p:=⟨p.n,p.ph,fM p.ts x.m (bH g.k),p.os⟩) (aC iD.u.1 aa) (aC iD.u.2 aa)⟩,fP.u⟩
       ·exact aR rfl _ _ _ _ _ _ _ rfl rfl Fm.u yu rfl af
     ·skip;have ZA:bH g.k=0:=oM ((BM g.k).1)
      have HV:Hid (eQ p g=none):=by
       unfold Hid eQ;rw [aM oU.u,aM et,aM hk9,aM adh,aM aa]
      have fc:decide (bH g.k>0)=false:=by simp [ZA]
      rw [ZA] at fc |-;obtain ⟨⟨d0,d1,d2,d3⟩,z0,z1,z2,z3⟩:=aB NN.u;have nT:=hY (NN.u.bR (iI 0) (iI 0) (nS) (nS));have fD:=hY (aW (g:=w.heap.size+1+1) jP.u aa (iI 0) (iI 0) (nS) (nS))
      exact IV
    ·skip;have adh:g.k=11:=sU e11
     obtain ⟨b1,o1,y,UN,auJ,hy,u0,u1⟩:=Hp (jN.u.ext jP.u) YX;injection UN with UN;injection UN with ky eu;subst ky eu;have hyo:=Ln.u.o y (lG hy);have hoB:jq p.os g.b=y:=by rw [HGI.u.2];exact Fe hy
     have HYA:=hY (lQ hy hoB);clear hy hoB;have HV:Hid (eQ p g=some ⟨p.n,p.ph,p.ts,(p.os.set ia y).set ib x⟩):=by
      unfold Hid eQ;rw [aM oU.u,aM aa,aM aa,aY adh,WY.u.2,HYA.u.2,HGI.u.1,HGI.u.2];rfl
     have a3:=Bg.u.ck 3;have fz:Hid (Ext w (((W5.setCell (aA gb (ia*2)) (iI y.m)).setCell (aA gb (ia*2+1)) (iI y.f)).drew)):=((jP.u.setCell (p:=(aA gb (ia*2))) (by show w.heap.size<=gb;omega) _).setCell (p:=(aA gb (ia*2+1))) (by show w.heap.size<=gb;omega) _).drew;have HE1:=hY (au.drew ((Eb.u.cB (p:=(aA gb (ia*2))) (by show w.heap.size+1≠gb;omega) (iI y.m)).cB (p:=(aA gb (ia*2+1))) (by show w.heap.size+1≠gb;omega) (iI y.f)));have Qd:=hY (au.drew ((NN.u.cB (p:=(aA gb (ia*2))) (by show w.heap.size+1+1≠gb;omega) (iI y.m)).cB (p:=(aA gb (ia*2+1))) (by show w.heap.size+1+1≠gb;omega) (iI y.f)));have Uu:=hY (au.drew ((IW.u.cB (p:=(aA gb (ia*2))) (by show w3.heap.size≠gb;omega) (iI y.m)).cB (p:=(aA gb (ia*2+1))) (by show w3.heap.size≠gb;omega) (iI y.f)));have Oc:=hY (au.drew ((wG.u.cB (p:=(aA gb (ia*2))) (by show w3.heap.size+1≠gb;omega) (iI y.m)).cB (p:=(aA gb (ia*2+1))) (by show w3.heap.size+1≠gb;omega) (iI y.f)));have gH:Hid ((((W5.setCell (aA gb (ia*2)) (iI y.m)).setCell (aA gb (ia*2+1)) (iI y.f)).drew).ownsRow wq.heap.size 243 2 (.slice A3 p.ts.length c3) p.ts.length (aQ p.ts)/\(((W5.setCell (aA gb (ia*2)) (iI y.m)).setCell (aA gb (ia*2+1)) (iI y.f)).drew).ownsRow wq.heap.size 227 2 (.slice (some ⟨gb,0,none⟩) p.os.length c4) p.os.length (bF (p.os.set ia y))):=by
      exact ⟨aj (AB (AB jL.u.1 jL.u.2 _ _) (Df jL.u.2 WY.u.1 _) _ _) (xZ _).drew,aj (IQ jL.u.2 WY.u.1 _ _) (xZ _).drew⟩
     go_upto_region 13 with fail;go_still_tail 11,af;change wpList _ _ _ _ _ W5.drew;go_upto_region 14 with fail;clear Bg Eb NN IW wG jL jP y0 y1 KX WZ g0 g1 g2 q0 q1 t3 VL a3 u0 u1;generalize ((W5.setCell (aA gb (ia*2)) (iI y.m)).setCell (aA gb (ia*2+1)) (iI y.f)).drew=W7 at*
     have KZ:=OK gH.u.2 (ib*2);have hj1:=OK gH.u.2 (ib*2+1);have auK:ib<(p.os.set ia y).length:=by rw [FT];exact YX
     obtain ⟨b2,o2,y2,UO,-,iW,v0,v1⟩:=Hp (Rd.own gH.u.2) YX;injection UO with UO;injection UO with zC fg;subst zC fg;rw [lM] at v0 v1;have HY2:=hY iW;clear iW auK;have g2:W7.cell? (aA (w.z+1) 2)=some (iI ib):=HE1.u.cv 2 HGI.u.2
     have q0:=Oc.u.ck 0;have q1:=Oc.u.ck 1;have t3:=Uu.u.ck 3;have dL:Hid (Ext w ((W7.setCell (aA gb (ib*2)) (iI x.m)).setCell (aA gb (ib*2+1)) (iI x.f))):=(fz.u.setCell (p:=(aA gb (ib*2))) (by show w.heap.size<=gb;omega) _).setCell (p:=(aA gb (ib*2+1))) (by show w.heap.size<=gb;omega) _;have dv:=hY ((Qd.u.cB (p:=(aA gb (ib*2))) (by show w.heap.size+1+1≠gb;omega) (iI x.m)).cB (p:=(aA gb (ib*2+1))) (by show w.heap.size+1+1≠gb;omega) (iI x.f));have nT:=hY ((Uu.u.cB (p:=(aA gb (ib*2))) (by show w3.heap.size≠gb;omega) (iI x.m)).cB (p:=(aA gb (ib*2+1))) (by show w3.heap.size≠gb;omega) (iI x.f));have mn:=hY (lQ (AB (AB gH.u.1 gH.u.2 (ib*2) (iI x.m)) (Df gH.u.2 HY2.u x.m) (ib*2+1) (iI x.f)) (IQ gH.u.2 HY2.u x.m x.f));go_upto_region 20 with fail;clear HE1 Qd Uu Oc gH fz KZ hj1 g2 q0 q1 t3 v0 v1;generalize (W7.setCell (aA gb (ib*2)) (iI x.m)).setCell (aA gb (ib*2+1)) (iI x.f)=W6 at*
     have k0:=nT.u.cell 0;have k1:=nT.u.cell 1;have k2:=nT.u.cell 2;have k3:=nT.u.cell 3;obtain ⟨⟨d0,d1,d2,d3⟩,z0,z1,z2,z3⟩:=aB dv.u;have Fm:=hY (dv.u.bR (iI p.n) (iI p.ph) (.slice A3 p.ts.length c3) (.slice (some ⟨gb,0,none⟩) p.os.length c4));have fP:=hY (aW (g:=w.heap.size+1+1) dL.u aa (iI p.n) (iI p.ph) (.slice A3 p.ts.length c3) (.slice (some ⟨gb,0,none⟩) p.os.length c4));have iD:=hY (lQ (kb (mn.u.1) (g:=w.heap.size+1+1) hsq (iI p.n) (iI p.ph) (.slice A3 p.ts.length c3) (.slice (some ⟨gb,0,none⟩) p.os.length c4)) (kb (mn.u.2) (g:=w.heap.size+1+1) hsq (iI p.n) (iI p.ph) (.slice A3 p.ts.length c3) (.slice (some ⟨gb,0,none⟩) p.os.length c4)));clear dv nT dL mn;go_wp2;refine bJ (v:=.tuple #[.agg #[iI p.n,iI p.ph,.slice A3 p.ts.length c3,.slice (some ⟨gb,0,none⟩) p.os.length c4],.bool true]) ?_ rfl ?_
     rotate_left
     ·rw [HV.u]
      exact ⟨⟨_,rfl,wN.mk4 (p:=⟨p.n,p.ph,p.ts,(p.os.set ia y).set ib x⟩) (aC iD.u.1 aa) (aC iD.u.2 aa)⟩,fP.u⟩
     ·exact aR rfl _ _ _ _ _ _ _ rfl rfl Fm.u yu rfl af
   ·skip;have hk9:g.k=9:=sU e9
    obtain ⟨b1,o1,y,UN,auJ,hy,u0,u1⟩:=Hp (jN.u.ext jP.u) YX;injection UN with UN;injection UN with ky eu;subst ky eu;have hyo:=Ln.u.o y (lG hy);have hoB:jq p.os g.b=y:=by rw [HGI.u.2];exact Fe hy
    have HYA:=hY (lQ hy hoB);clear hy hoB;obtain ⟨b2,o2,y2,UO,-,iW,v0,v1⟩:=Hp (Rd.own jL.u.2) YX;injection UO with UO;injection UO with zC fg;subst zC fg;obtain rfl:y=y2:=by have:=HYA.u.1;rw [iW] at this;cases this;rfl
    clear iW;rw [lM] at v0 v1;have KZ:=VL (ib*2);have hj1:=VL (ib*2+1);have a3:=Bg.u.ck 3;have HV:Hid (eQ p g=some ⟨p.n,p.ph,p.ts,p.os.set ib ⟨(bits .xor .i64 x.m y.m),(bits .xor .i64 x.f y.f)⟩⟩):=by
     unfold Hid eQ;rw [aM oU.u,aM aa,aY hk9,WY.u.2,HYA.u.2,HGI.u.2];rfl
    go_upto_region 11 with fail;have fz:=hY (jP.u.alloc (cO #[iI y.m,iI y.f] 227));have HE1:=hY (Eb.u.alloc (cO #[iI y.m,iI y.f] 227));have Qd:=hY (NN.u.alloc (cO #[iI y.m,iI y.f] 227));have Uu:=hY (IW.u.alloc (cO #[iI y.m,iI y.f] 227));have Oc:=hY (wG.u.alloc (cO #[iI y.m,iI y.f] 227));have HE5:=hY (au.new W5 227 #[iI y.m,iI y.f]);have gH:=hY (lQ (jL.u.1.alloc (cO #[iI y.m,iI y.f] 227)) (jL.u.2.alloc (cO #[iI y.m,iI y.f] 227)));have apy:gb<W5.heap.size:=by have:=(jL.u.2.lt gb rfl).2;exact this
    have v0':(W5.alloc (cO #[iI y.m,iI y.f] 227)).cell? (aA gb (ib*2))=some (iI y.m):=((xZ W5).alloc _).cell (p:=(aA gb (ib*2))) apy|>.trans v0
    have v1':(W5.alloc (cO #[iI y.m,iI y.f] 227)).cell? (aA gb (ib*2+1))=some (iI y.f):=((xZ W5).alloc _).cell (p:=(aA gb (ib*2+1))) apy|>.trans v1
    have hj:∀j,(W5.alloc (cO #[iI y.m,iI y.f] 227)).frozen? (aA gb j)=false:=OK gH.u.2;clear Bg Eb NN IW wG jL jP y0 y1 KX WZ g0 g1 g2 q0 q1 t3 VL v0 v1 KZ hj1 u0 u1 a3;generalize hW7:W5.alloc (cO #[iI y.m,iI y.f] 227)=W7 at*
    clear hW7;have KZ:=hj (ib*2);have hj1:=hj (ib*2+1);have g2:W7.cell? (aA (w.z+1) 2)=some (iI ib):=HE1.u.cv 2 HGI.u.2
    have q0:=Oc.u.ck 0;have q1:=Oc.u.ck 1;have e0:=HE5.u.ck 0;have e1':=HE5.u.ck 1;have t3:=Uu.u.ck 3;have dL:Hid (Ext w ((W7.setCell (aA gb (ib*2)) (iI (bits .xor .i64 x.m y.m))).setCell (aA gb (ib*2+1)) (iI (bits .xor .i64 x.f y.f)))):=(fz.u.setCell (p:=(aA gb (ib*2))) (by show w.heap.size<=gb;omega) _).setCell (p:=(aA gb (ib*2+1))) (by show w.heap.size<=gb;omega) _;have dv:=hY ((Qd.u.cB (p:=(aA gb (ib*2))) (by show w.heap.size+1+1≠gb;omega) (iI (bits .xor .i64 x.m y.m))).cB (p:=(aA gb (ib*2+1))) (by show w.heap.size+1+1≠gb;omega) (iI (bits .xor .i64 x.f y.f)));have nT:=hY ((Uu.u.cB (p:=(aA gb (ib*2))) (by show w3.heap.size≠gb;omega) (iI (bits .xor .i64 x.m y.m))).cB (p:=(aA gb (ib*2+1))) (by show w3.heap.size≠gb;omega) (iI (bits .xor .i64 x.f y.f)));have mn:=hY (lQ (AB (AB gH.u.1 gH.u.2 (ib*2) (iI (bits .xor .i64 x.m y.m))) (Df gH.u.2 HYA.u.1 (bits .xor .i64 x.m y.m)) (ib*2+1) (iI (bits .xor .i64 x.f y.f))) (IQ gH.u.2 HYA.u.1 (bits .xor .i64 x.m y.m) (bits .xor .i64 x.f y.f)));go_upto_region 20 with fail;clear HE1 Qd Uu Oc HE5 gH fz v0' v1' hj KZ hj1 g2 q0 q1 e0 e1' t3;generalize (W7.setCell (aA gb (ib*2)) (iI (bits .xor .i64 x.m y.m))).setCell (aA gb (ib*2+1)) (iI (bits .xor .i64 x.f y.f))=W6 at*
    have k0:=nT.u.cell 0;have k1:=nT.u.cell 1;have k2:=nT.u.cell 2;have k3:=nT.u.cell 3;obtain ⟨⟨d0,d1,d2,d3⟩,z0,z1,z2,z3⟩:=aB dv.u;have Fm:=hY (dv.u.bR (iI p.n) (iI p.ph) (.slice A3 p.ts.length c3) (.slice (some ⟨gb,0,none⟩) p.os.length c4));have fP:=hY (aW (g:=w.heap.size+1+1) dL.u aa (iI p.n) (iI p.ph) (.slice A3 p.ts.length c3) (.slice (some ⟨gb,0,none⟩) p.os.length c4));have iD:=hY (lQ (kb (mn.u.1) (g:=w.heap.size+1+1) hsq (iI p.n) (iI p.ph) (.slice A3 p.ts.length c3) (.slice (some ⟨gb,0,none⟩) p.os.length c4)) (kb (mn.u.2) (g:=w.heap.size+1+1) hsq (iI p.n) (iI p.ph) (.slice A3 p.ts.length c3) (.slice (some ⟨gb,0,none⟩) p.os.length c4)));clear dv nT dL mn;go_wp2;refine bJ (v:=.tuple #[.agg #[iI p.n,iI p.ph,.slice A3 p.ts.length c3,.slice (some ⟨gb,0,none⟩) p.os.length c4],.bool true]) ?_ rfl ?_
    rotate_left
    ·rw [HV.u]
     exact ⟨⟨_,rfl,wN.mk4 (p:=⟨p.n,p.ph,p.ts,p.os.set ib ⟨(bits .xor .i64 x.m y.m),(bits .xor .i64 x.f y.f)⟩⟩) (aC iD.u.1 aa) (aC iD.u.2 aa)⟩,fP.u⟩
    ·exact aR rfl _ _ _ _ _ _ _ rfl rfl Fm.u yu rfl af
  ·skip;have et:g.k=1:=sU e1
   have HV:Hid (eQ p g=some ⟨p.n,p.ph,p.ts,p.os.set ia ⟨x.m,1 - x.f⟩⟩):=by
    unfold Hid eQ;rw [aM oU.u,aY et,WY.u.2,HGI.u.1];rfl
   have hw1:IntKind.i64.wrap (1 - x.f)=1 - x.f:=lH _ aa;have hw2:wrap64 (1 - x.f)=1 - x.f:=bk
   have dL:Hid (Ext w (W5.setCell (aA gb (ia*2+1)) (iI (1 - x.f)))):=jP.u.setCell (p:=(aA gb (ia*2+1))) (by show w.heap.size<=gb;omega) _;have dv:=hY (NN.u.cB (p:=(aA gb (ia*2+1))) (by show w.heap.size+1+1≠gb;omega) (iI (1 - x.f)));have nT:=hY (IW.u.cB (p:=(aA gb (ia*2+1))) (by show w3.heap.size≠gb;omega) (iI (1 - x.f)));have mn:=hY (lQ (AB jL.u.1 jL.u.2 (ia*2+1) (iI (1 - x.f))) (Zz jL.u.2 WY.u.1 (1 - x.f)));go_upto_region 20 with fail;clear Bg Eb NN IW wG jL jP y0 y1 KX WZ g0 g1 g2 q0 q1 t3 VL;generalize W5.setCell (aA gb (ia*2+1)) (iI (1 - x.f))=W6 at*
   have k0:=nT.u.cell 0;have k1:=nT.u.cell 1;have k2:=nT.u.cell 2;have k3:=nT.u.cell 3;obtain ⟨⟨d0,d1,d2,d3⟩,z0,z1,z2,z3⟩:=aB dv.u;have Fm:=hY (dv.u.bR (iI p.n) (iI p.ph) (.slice A3 p.ts.length c3) (.slice (some ⟨gb,0,none⟩) p.os.length c4));have fP:=hY (aW (g:=w.heap.size+1+1) dL.u aa (iI p.n) (iI p.ph) (.slice A3 p.ts.length c3) (.slice (some ⟨gb,0,none⟩) p.os.length c4));have iD:=hY (lQ (kb (mn.u.1) (g:=w.heap.size+1+1) hsq (iI p.n) (iI p.ph) (.slice A3 p.ts.length c3) (.slice (some ⟨gb,0,none⟩) p.os.length c4)) (kb (mn.u.2) (g:=w.heap.size+1+1) hsq (iI p.n) (iI p.ph) (.slice A3 p.ts.length c3) (.slice (some ⟨gb,0,none⟩) p.os.length c4)));clear dv nT dL mn;go_wp2;refine bJ (v:=.tuple #[.agg #[iI p.n,iI p.ph,.slice A3 p.ts.length c3,.slice (some ⟨gb,0,none⟩) p.os.length c4],.bool true]) ?_ rfl ?_
   rotate_left
   ·rw [HV.u]
    exact ⟨⟨_,rfl,wN.mk4 (p:=⟨p.n,p.ph,p.ts,p.os.set ia ⟨x.m,1 - x.f⟩⟩) (aC iD.u.1 aa) (aC iD.u.2 aa)⟩,fP.u⟩
   ·exact aR rfl _ _ _ _ _ _ _ rfl rfl Fm.u yu rfl af
def Lu (a b x:Int):Int:=if (x==a)=true then b else if (x==b)=true then a else x
theorem apz {a b x:Int} (h:(x==a)=true):Lu a b x=b:=aY h
theorem apA {a b x:Int} (h:(x==a)=false) (h':(x==b)=true):Lu a b x=a:=by unfold Lu;rw [aM aZ,aY h']
theorem ajf {a b x:Int} (h:(x==a)=false) (h':(x==b)=false):Lu a b x=x:=by unfold Lu;rw [aM aZ,aM (by simp [h'])]
def qd (p:List Int) (a b:Int):List Int:=if perm p=true then p.map (Lu a b) else []
theorem adk {p:List Int} {a b:Int} (h:perm p=false):qd p a b=[]:=aM aZ
theorem ME {p:List Int} {a b:Int} (h:perm p=true):qd p a b=p.map (Lu a b):=aY h
theorem RS {α β:Type} (f:α->β) {p:List α} {k:Nat} {x:α} (h:p[k]?=some x):(p.take (k+1)).map f=(p.take k).map f++[f x]:=by
 rw [aS h,qF];rfl
theorem ahs {α β:Type} (f:α->β) {p:List α} {k n:Nat} (hk:k<=n) (hn:p.length=n):((p.take k).map f).length=k:=by
 rw [jK,lT];omega
theorem xH {p:List Int} (h:perm p=true):1<=p.length/\p.length<=4:=by
 unfold perm at h;simp only [lF,kh] at h
 exact h.2
theorem AD {P:Prop} (h:P:=by
 go_roundw
 case rel=>exact ⟨k+1,aa,az,by rw [MF.u,HV.u];exact fg,bz⟩
 case measure=>simp [intOf];omega):P:=h
theorem xX (A:OA) (n c:Nat) (p:List Int) (a b:Int) (w:World) (h:Rd w w.heap.size 1 A n (aD p)) (hn:n<=2000000000000) (hc:n<=c):
  Calls prog 158 #[.slice A n c,iI a,iI b] w fun e w'=>∃v,e=.returned v/\w'.ownsRow w.heap.size 3 1 v (qd p a b).length (aD (qd p a b))/\Ext w w':=by
 have hlen:=hY (h.len bG aa);go_enter func158,ntmps158;go_wp2
 cases hp:perm p
 ·have HS:=hY (adk (a:=a) (b:=b) hp)
  go_loopw [7,8] (fun v i wr=>i=iI 0/\wr.ownsRow w.heap.size 3 1 v 0 (aD [])/\Ext w wr) (fun _ _ _=>0)
  case atStart=>exact ⟨rfl,aN w w _ _ (xZ _),xx⟩
  case round=>
   obtain ⟨rfl,ho,hx⟩:=hrel;go_wp2_with fail;refine (bU A n c p _ (h.ext hx) hn hc).mono ?_;rintro e w1 ⟨rfl,aK⟩;rw [hp];have eu:=aj ho aK;clear hp;go_wp2;go_ret
   exact ⟨_,rfl,by rw [HS.u];exact eu,hx.trans aK⟩
 have HS:=hY (ME (a:=a) (b:=b) hp);have zn:n<=4:=oN ((xH hp).2) hlen.u
 have HP:=hY hp;clear hp
 go_loopw [7,8] (fun v i wr=>∃k:Nat,k<=n/\i=iI k/\wr.ownsRow w.heap.size 3 1 v k (aD ((p.take k).map (Lu a b)))/\Ext w wr) (fun _ i _=>n - (intOf i).toNat)
 case atStart=>exact ⟨0,lJ _,rfl,aN w w _ _ (xZ _),xx⟩
 case round=>
  obtain ⟨k,hk,rfl,ho,hx⟩:=hrel;go_wp2_with fail;refine (bU A n c p _ (h.ext hx) hn hc).mono ?_;rintro e w1 ⟨rfl,aK⟩;rw [HP.u];have eu:=aj ho aK;replace hx:=hx.trans aK
  by_cases ba:k<n
  ·obtain ⟨bb,o,x,rfl,hb,hq,h0⟩:=du (h.ext hx) ba;have MF:=hY (RS (Lu a b) hq);clear hq
   cases ha:(x==a)
   ·cases rJ:(x==b)
    ·have HV:=hY (ajf ha rJ);go_wp2_with (at_builtin;refine pq (w0:=w) rfl _ _ rfl _ k ((p.take k).map (Lu a b)) rfl eu hx x _ _ rfl ag aa ?_;intro v1 w2 fg bz jW zC)
     exact AD
    ·have HV:=hY (apA ha rJ);go_wp2_with (at_builtin;refine pq (w0:=w) rfl _ _ rfl _ k ((p.take k).map (Lu a b)) rfl eu hx a _ _ rfl ag aa ?_;intro v1 w2 fg bz jW zC)
     exact AD
   ·have HV:=hY (apz (b:=b) ha);go_wp2_with (at_builtin;refine pq (w0:=w) rfl _ _ rfl _ k ((p.take k).map (Lu a b)) rfl eu hx b _ _ rfl ag aa ?_;intro v1 w2 fg bz jW zC)
    exact AD
  ·obtain rfl:k=n:=aa
   rw [lE bQ] at eu;go_wp2;go_ret
   exact ⟨_,rfl,by rw [HS.u,jK,hlen.u];exact eu,hx⟩
theorem ale (x:Gr) (gs:List Gt):(zU x gs).length<=75*gs.length:=by
 unfold zU;split
 ·exact acw x gs
 ·simp
theorem NI {x:Gr} {g:Gt} (hv:vg g x.n=true) (h9:(g.k==9)=true):eU x g=se x g:=by
 have h1:(ar g.k==1)=false:=by rw [BR (.inl h9)];rfl
 unfold eU;rw [hv,h1,h9];simp
theorem OO {x:Gr} {g:Gt} (hv:vg g x.n=true) (h9:(g.k==9)=true) (hc:se x g=true):kI x g=Da x g:=by
 have h1:(ar g.k==1)=false:=by rw [BR (.inl h9)];rfl
 rw [UC rp h1,apa h9];simp
theorem ass {x:Gr} {g:Gt} (hv:vg g x.n=true) (h9:(g.k==9)=true) (he:gP x.es g.a g.b=true):eU x g=true/\kI x g=[g]:=by
 have hc:se x g=true:=by unfold se;rw [he];rfl
 refine ⟨rp,?_⟩;rw [OO hv h9 hc];unfold Da;rw [aY he,<-acz hv h9]
theorem ast {x:Gr} {g:Gt} (hv:vg g x.n=true) (h9:(g.k==9)=true) (he:gP x.es g.a g.b=false) (Tp:gP x.es g.b g.a=true):eU x g=true/\kI x g=[g1 4 g.a,g1 4 g.b,hU g.b g.a,g1 4 g.a,g1 4 g.b]:=by
 have hc:se x g=true:=by unfold se;rw [he,Tp];rfl
 refine ⟨rp,?_⟩;rw [OO hv h9 hc];unfold Da;rw [aM (by simp [he])]
theorem asu {x:Gr} {g:Gt} (hv:vg g x.n=true) (h9:(g.k==9)=true) (he:gP x.es g.a g.b=false) (Tp:gP x.es g.b g.a=false):eU x g=false:=by
 rw [NI hv h9];unfold se;rw [he,Tp];rfl
theorem adl {x:Gr} {a b:Int} (hv:vg (hU a b) x.n=true):eU x (hU a b)=se x (hU a b):=NI hv rfl
theorem apB {x:Gr} {g:Gt} (hv:vg g x.n=true) (h:(g.k==11)=true):iZ x (dec g)=eU x g/\zU x (dec g)=kI x g:=by
 have h2:=acy hv (BR (.inr h));obtain ⟨n1,n2,p1,p2,p3,p4,p5,p6⟩:=h2;have v1:=ai0 n1 n2 p1 p2 p3 p4 p5;have v2:=ai0 n1 n2 p3 p4 p1 p2 (vV p5);have h1:(ar g.k==1)=false:=by rw [BR (.inr h)];rfl
 have c1:se x (hU g.a g.b)=se x g:=rfl;have c2:se x (hU g.b g.a)=se x g:=by unfold se;exact Bool.or_comm _ _
 have e1:eU x g=se x g:=by unfold eU;rw [hv,h1,h];simp
 have e2:iZ x (dec g)=se x g:=by
  unfold iZ;rw [acA h];simp [adl v1,adl v2,c1,c2]
 refine ⟨by rw [e1,e2],?_⟩
 cases hc:se x g
 ·rw [YY (by rw [e2];exact hc),Og (by rw [e1];exact hc)]
 ·rw [UD (by rw [e2];exact hc),UC (by rw [e1];exact hc) h1,acA h];have l1:kI x (hU g.a g.b)=Da x (hU g.a g.b):=OO v1 rfl (by rw [c1];exact hc);have l2:kI x (hU g.b g.a)=Da x (hU g.b g.a):=OO v2 rfl (by rw [c2];exact hc);simp [l1,l2]
end Go.Proofs.YtodhjgngkkcjgaaGreatDoor
