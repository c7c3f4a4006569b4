import Derived.Test.YtiajdbllccmokaaGreatDoorXq
import Derived.Test.YtiajdbllccmokaaGreatDoorXp
namespace Go.Proofs.YtiajdbllccmokaaGreatDoor
open Go.ChangeShapes Go.WideShapes Go.ChangeAt Go.RowKit Go.Deep Go.Proofs.Tryz
set_option linter.unusedVariables false
set_option linter.unusedSimpArgs false
set_option maxRecDepth 100000
set_option maxHeartbeats 16000000
def PB (w:World) (A:OA):Prop:=∀b o,A=some ⟨b,o,none⟩->∃cs,ay w b 187 cs
theorem PB.ext {w w':World} {A:OA} (h:PB w A) (hx:Ext w w'):PB w' A:=fun b o e=>by
 obtain ⟨cs,hb⟩:=h b o e
 exact ⟨cs,hb.ext hx⟩
theorem PB.own {w:World} {B len cap:Nat} {A:OA} {xs:List Value} (h:w.ownsRow B 187 4 (.slice A len cap) len xs):PB w A:=fun b o e=>by
 subst e;rcases h.2 with ⟨h0,hn⟩|⟨g,iJ,cur,hv,hB,hc,-⟩
 ·cases h0
 ·injection hv with e1;injection e1 with e1;injection e1 with e1;subst e1
  exact ⟨cur,hc⟩
def yi (n:Int) (rs:List Pa) (v:Value) (w:World):Prop:=∃(A:OA) (c:Nat),v=.agg #[iI n,.slice A rs.length c]/\Rd w w.heap.size 4 A rs.length (aV rs)/\rs.length<=c/\PB w A
theorem yi.put {n:Int} {rs:List Pa} {N:Int} {A:OA} {len cap:Nat} {xs:List Pa} {W1 w:World} {g r:Nat} (h:DT W1 w g N A len cap xs) (hr:r<g) (a b:Value):yi N xs (.agg #[iI N,.slice A len cap]) (dN w r a b):=by
 have hl:=h.len_;have ho:=bk (bk h.o (p:=(aA r 0)) (by show r<g+1;omega) a) (p:=(aA r 1)) (by show r<g+1;omega) b;have RL:=Rd.own ho;have hp:=PB.own ho;have hc:=h.cap_;subst hl
 exact ⟨A,cap,rfl,RL,hc,hp⟩
def Bz (n:Int) (t:Option (List Pa)) (e:Ending) (w:World):Prop:=
 match t with
 |none=>e=.returned (.tuple #[.agg jC,.bool false])
 |some rs=>∃v,e=.returned (.tuple #[v,.bool true])/\yi n rs v w
theorem yj {n:Int} {t:Option (List Pa)} {e:Ending} {w:World} (h:t=none) (he:e=.returned (.tuple #[.agg jC,.bool false])):Bz n t e w:=by subst h;exact he
theorem Jt {n:Int} {t:Option (List Pa)} {rs:List Pa} {e:Ending} {w:World} {v:Value} (h:t=some rs) (he:e=.returned (.tuple #[v,.bool true])) (ho:yi n rs v w):Bz n t e w:=by subst h;exact ⟨v,he,ho⟩
theorem DK {P:Prop} (h:P:=by
 refine o1 11 fun K hK=>?_
 obtain ⟨⟨q0,q1,q2,q3⟩,f0,f1,f2,f3⟩:=aB dL.u;go_simp;have eQ:Hid (Ext wr ((((w6.setCell (aA s 0) (iI y.n)).setCell (aA s 1) (iI y.x)).setCell (aA s 2) (iI y.z)).setCell (aA s 3) (iI y.p))):=br (g:=s) dG.u ou _ _ _ _;have lX:Hid (ay ((((w6.setCell (aA s 0) (iI y.n)).setCell (aA s 1) (iI y.x)).setCell (aA s 2) (iI y.z)).setCell (aA s 3) (iI y.p)) s 187 (jF y)):=dL.u.bP _ _ _ _;refine ov hK (HK.u _ (eQ.u)) fun ay4=>?_
 refine tq 12 ?_;refine dn ?_;clear q0 q1 q2 q3 f0 f1 f2 f3 ay4;generalize ((((w6.setCell (aA s 0) (iI y.n)).setCell (aA s 1) (iI y.x)).setCell (aA s 2) (iI y.z)).setCell (aA s 3) (iI y.p))=w7 at*
 have VF:=hY (xj.u.ext eQ.u);have HA7:=hY (TQ.u.ext eQ.u);clear dG dL eQ HC HK ou xj TQ;obtain ⟨⟨c0,c1⟩,-⟩:=bt VF.u.b;obtain ⟨⟨y0,y1,y2,y3⟩,-⟩:=aB lX.u;go_wp2_with (at_builtin;refine DT.app (VF.u.ext ((xZ _).alloc (cO (jF y) 187))) rfl _ _ rfl rfl y _ rfl (eh _ _ _ 4 _ ez ez) aa ?_;intro A7 c7 w8 ⟨GM,hD7,FW⟩;have k6:w8.cell? (aA q 1)=some (.slice A' k cap):=GM.cell 1;have f6:w8.frozen? (aA q 1)=false:=GM.frozen 1)
 have RX:=hY hD7;have HA8:=hY ((HA7.u.ext ((xZ _).alloc (cO (jF y) 187))).left FW);clear GM hD7 FW;go_roundw
 case rel=>exact ⟨k+1,A7,c7,by first|rfl|rw [eM]|rw [iG],oM bS.u,by rw [HY.u];exact RX,HA8,mr⟩
 case measure=>simp [intOf,iG];have:=bS.u;omega):P:=h
theorem DL {P:Prop} (h:P:=by
 refine o1 11 fun K hK=>?_
 obtain ⟨⟨q0,q1,q2,q3⟩,f0,f1,f2,f3⟩:=aB dL.u;go_simp;have eQ:Hid (Ext wr ((((w6.setCell (aA s 0) (iI y.n)).setCell (aA s 1) (iI y.x)).setCell (aA s 2) (iI y.z)).setCell (aA s 3) (iI y.p))):=br (g:=s) dG.u ou _ _ _ _;have lX:Hid (ay ((((w6.setCell (aA s 0) (iI y.n)).setCell (aA s 1) (iI y.x)).setCell (aA s 2) (iI y.z)).setCell (aA s 3) (iI y.p)) s 187 (jF y)):=dL.u.bP _ _ _ _;refine ov hK (HK.u _ (eQ.u)) fun ay4=>?_
 refine tq 12 ?_;refine dn ?_;clear q0 q1 q2 q3 f0 f1 f2 f3 ay4;generalize ((((w6.setCell (aA s 0) (iI y.n)).setCell (aA s 1) (iI y.x)).setCell (aA s 2) (iI y.z)).setCell (aA s 3) (iI y.p))=w7 at*
 have VF:=hY (xj.u.ext eQ.u);have HA7:=hY (TQ.u.ext eQ.u);clear dG dL eQ HC HK ou xj TQ;obtain ⟨⟨c0,c1⟩,z0,z1⟩:=bt HA7.u.2.2.1;go_wp2;have sR:Hid (ay (dN _ (w.heap.size+2) (iI 0) (nS)) (w.heap.size+2) 147 jC):=(HA7.u.2.2.1).dN _ _;refine bR (v:=.tuple #[.agg jC,.bool false]) ?_ rfl ?_
 rotate_left
 ·exact ⟨yj TR.u rfl,dH (g:=w.heap.size+2) (VF.u.x) aa _ _⟩
 ·exact bF rfl _ _ _ _ _ _ _ rfl rfl sR.u underlying147 rfl fR):P:=h
theorem DM {P:Prop} (h:P:=by
 refine (pJ p g w').mono ?_;rintro e w'' ⟨he,hx⟩
 exact ⟨by rw [<-hy,<-qz];exact he,hx⟩):P:=h
theorem fH (A:OA) (c:Nat) (n:Int) (rs:List Pa) (g:Gt) (w:World) (h:Rd w w.heap.size 4 A rs.length (aV rs)) (hl:rs.length<=2000000000000) (yc:rs.length<=c):
  Calls prog 128 #[.agg #[iI n,.slice A rs.length c],g.val] w fun e w'=>Bz n (fa n rs g) e w'/\Ext w w':=by
 go_enter func128,ntmps128;go_wp2_with fail;refine (cC A c n rs _ (h.ext aD) hl yc).mono ?_;rintro e w1 ⟨rfl,aS⟩;obtain ⟨l,df⟩:=ex (rs.length);rw [df] at h hl yc aS |-;have HL:=hY df;clear df;have HA1:Hid (∀q,w.heap.size+3<=q->AG w w1 A l c n g q):=fun q hq=>⟨(((ay.new w _ _).alloc _).alloc _).ext aS,((ay.newAt (b:=w.heap.size+1) ag).alloc _).ext aS,(ay.newAt (b:=w.heap.size+2) ag).ext aS,hq⟩
 have dk:Hid (Ext w w1):=Ext.trans aD aS;have nQ:w.heap.size+3<=w1.heap.size:=gl
 clear aS
 cases hv:mB n rs
 ·have TR:Hid (fa n rs g=none):=aa1 hv;clear hv;have HR:=HA1.u _ (lI _);have HR':=HR.2.2.1;clear HR;obtain ⟨⟨c0,c1⟩,z0,z1⟩:=bt HR';go_wp2;have sR:Hid (ay (dN _ (w.heap.size+2) (iI 0) (nS)) (w.heap.size+2) 147 jC):=HR'.dN _ _;refine bR (v:=.tuple #[.agg jC,.bool false]) ?_ rfl ?_
  rotate_left
  ·exact ⟨yj TR.u rfl,dH (g:=w.heap.size+2) (dk.u) aa _ _⟩
  ·exact bF rfl _ _ _ _ _ _ _ rfl rfl sR.u underlying147 rfl fR
 have HV:=hY hv;have HVL:=hY (Wi hv);clear hv;obtain ⟨b,o,rfl,-,-⟩:=h.2 (oN HVL.u HL.u);have Vy:Hid (∀i,i<l->∃x,rs[i]?=some x):=fun i hi=>⟨_,lB (by rw [HL.u];exact hi)⟩
 have hl8:l<=8:=oN HVL.u HL.u
 clear hl yc;obtain ⟨⟨t0,t1⟩,-⟩:=bt (HA1.u _ (lI _)).1;go_upto_region 4 with fail;obtain ⟨q,hq⟩:=ey (w1.heap.size);rw [<-hq];have HAG:Hid (AG w (w1.alloc (cO #[iI n,nS] 147)) (some ⟨b,o,none⟩) l c n g q):=(HA1.u q aa).ext ((xZ _).alloc _);have HD:Hid (DT w (w1.alloc (cO #[iI n,nS] 147)) q n none 0 0 []):=⟨ay.newAt hq,⟨rfl,Or.inl ⟨rfl,rfl⟩⟩,dk.u.alloc _,aa⟩;clear t0 t1;generalize w1.alloc (cO #[iI n,nS] 147)=w2 at*
 clear hq nQ HA1 dk;obtain ⟨⟨t0,t1⟩,-⟩:=bt HAG.u.1;go_wp2;clear t0 t1
 go_loopw [7] (fun iv wr=>∃(k:Nat) (A':OA) (cap:Nat),iv=iI k/\k<=l/\Hid (DT w wr q n A' k cap ((rs.take k).map fun p=>cj p g))/\Hid (AG w wr (some ⟨b,o,none⟩) l c n g q)/\Hid ((rs.take k).all (fun p=>rD p g)=true)) (fun i _=>l - (intOf i).toNat)
 case atStart=>exact ⟨0,none,0,rfl,lJ _,sU HD,HAG,by simp [Hid]⟩
 case round=>
  obtain ⟨k,A',cap,rfl,hk,xj,TQ,HQ⟩:=hrel;clear HD HAG
  by_cases bh:k<l
  ·have bS:=hY bh;obtain ⟨p,hp⟩:=Vy.u k bh;have HP:=hY hp;clear hp;obtain ⟨y,hy⟩:=ex (cj p g);have HY:Hid ((rs.take (k+1)).map (fun p=>cj p g)=((rs.take k).map fun p=>cj p g)++[y]):=by unfold Hid;rw [Sh _ HP.u,hy]
   have eM:=wA k aa;have iG:=wB k aa;have HK:Hid (∀w',Ext wr w'->(w'.cell? (aA w.z 0)=some (iI n)/\w'.cell? (aA w.z 1)=some (.slice (some ⟨b,o,none⟩) l c))/\(w'.cell? (aA b (o+k*4))=some (iI p.n)/\w'.cell? (aA b (o+k*4+1))=some (iI p.x)/\w'.cell? (aA b (o+k*4+2))=some (iI p.z)/\w'.cell? (aA b (o+k*4+3))=some (iI p.p))/\(w'.cell? (aA (w.z+1) 0)=some (iI g.k)/\w'.cell? (aA (w.z+1) 1)=some (iI g.a)/\w'.cell? (aA (w.z+1) 2)=some (iI g.b)/\w'.cell? (aA (w.z+1) 3)=some (iI g.c))):=fun w' hx=>⟨(bt (TQ.u.1.ext hx)).1,IY (h.up (xj.u.x.trans hx) (lI _)) bS.u HP.u,(aB (TQ.u.2.1.ext hx)).1⟩
   obtain ⟨⟨b0,b1⟩,-⟩:=HK.u wr (xZ _)
   cases qz:rD p g
   ·have HC:Hid (∀w',Calls prog 142 #[.agg (jF p),.agg (gA g)] w' fun e w''=>e=.returned (.tuple #[.agg (jF y),.bool false])/\Ext w' w''):=fun w'=>by
     exact DM
    have TR:Hid (fa n rs g=none):=Wh HP.u qz;clear qz hy;go_upto_region 7 with fail;refine dm (S:=fun w'=>(w'.cell? (aA w.z 0)=some (iI n)/\w'.cell? (aA w.z 1)=some (.slice (some ⟨b,o,none⟩) l c))/\(w'.cell? (aA b (o+k*4))=some (iI p.n)/\w'.cell? (aA b (o+k*4+1))=some (iI p.x)/\w'.cell? (aA b (o+k*4+2))=some (iI p.z)/\w'.cell? (aA b (o+k*4+3))=some (iI p.p))/\(w'.cell? (aA (w.z+1) 0)=some (iI g.k)/\w'.cell? (aA (w.z+1) 1)=some (iI g.a)/\w'.cell? (aA (w.z+1) 2)=some (iI g.b)/\w'.cell? (aA (w.z+1) 3)=some (iI g.c))) af (HK.u _ (xZ wr).drew) (fun ay4=>?_);refine tq 0 ?_;refine tq 1 ?_;refine tq 2 ?_;refine tq 3 ?_;refine tq 4 ?_;refine tq 5 ?_;refine o2 6 10 (fun K hK=>?_) fun K hK=>?_
    ·go_simp;refine (HC.u _).mono ?_;rintro e v5 ⟨rfl,bK⟩;have kM:Hid (Ext wr v5):=Ext.trans (xZ wr).drew bK;clear bK;refine ov hK (HK.u _ (kM.u)) fun ay4=>?_
     refine tq 7 ?_;refine tq 8 ?_;refine tq 9 ?_;refine o1 10 fun K hK=>?_
     go_simp;have dG:Hid (Ext wr (v5.alloc (cO zO 187))):=kM.u.alloc _;have dL:Hid (ay (v5.alloc (cO zO 187)) v5.heap.size 187 zO):=ay.new _ _ _;have ou:wr.heap.size<=v5.heap.size:=kM.u.size;refine ov hK (HK.u _ (dG.u)) fun ay4=>?_
     generalize v5.alloc (cO zO 187)=w6 at*
     generalize v5.heap.size=s at*
     clear kM
     exact DL
    ·go_simp;refine ov hK (HK.u _ (((xZ wr).alloc _).drew)) fun ay4=>?_
     refine o1 6 fun K hK=>?_
     go_simp;refine (HC.u _).mono ?_;rintro e w6 ⟨rfl,bK⟩;have dG:Hid (Ext wr w6):=Ext.trans ((xZ wr).alloc (cO zO 187)).drew bK;have dL:Hid (ay w6 wr.heap.size 187 zO):=((ay.new wr 187 zO).ext ((xZ _).drew)).ext bK;have ou:wr.heap.size<=wr.heap.size:=lI _;clear bK;refine ov hK (HK.u _ (dG.u)) fun ay4=>?_
     refine tq 7 ?_;refine tq 8 ?_;refine tq 9 ?_;obtain ⟨s,hs⟩:=ey (wr.heap.size);rw [<-hs] at dL |-;replace ou:wr.heap.size<=s:=gj
     clear hs
     exact DL
   ·have HC:Hid (∀w',Calls prog 142 #[.agg (jF p),.agg (gA g)] w' fun e w''=>e=.returned (.tuple #[.agg (jF y),.bool true])/\Ext w' w''):=fun w'=>by
     exact DM
    have mr:Hid ((rs.take (k+1)).all (fun p=>rD p g)=true):=GV (fun p=>rD p g) HP.u HQ.u qz;clear qz hy;go_upto_region 7 with fail;refine dm (S:=fun w'=>(w'.cell? (aA w.z 0)=some (iI n)/\w'.cell? (aA w.z 1)=some (.slice (some ⟨b,o,none⟩) l c))/\(w'.cell? (aA b (o+k*4))=some (iI p.n)/\w'.cell? (aA b (o+k*4+1))=some (iI p.x)/\w'.cell? (aA b (o+k*4+2))=some (iI p.z)/\w'.cell? (aA b (o+k*4+3))=some (iI p.p))/\(w'.cell? (aA (w.z+1) 0)=some (iI g.k)/\w'.cell? (aA (w.z+1) 1)=some (iI g.a)/\w'.cell? (aA (w.z+1) 2)=some (iI g.b)/\w'.cell? (aA (w.z+1) 3)=some (iI g.c))) af (HK.u _ (xZ wr).drew) (fun ay4=>?_);refine tq 0 ?_;refine tq 1 ?_;refine tq 2 ?_;refine tq 3 ?_;refine tq 4 ?_;refine tq 5 ?_;refine o2 6 10 (fun K hK=>?_) fun K hK=>?_
    ·go_simp;refine (HC.u _).mono ?_;rintro e v5 ⟨rfl,bK⟩;have kM:Hid (Ext wr v5):=Ext.trans (xZ wr).drew bK;clear bK;refine ov hK (HK.u _ (kM.u)) fun ay4=>?_
     refine tq 7 ?_;refine tq 8 ?_;refine tq 9 ?_;refine o1 10 fun K hK=>?_
     go_simp;have dG:Hid (Ext wr (v5.alloc (cO zO 187))):=kM.u.alloc _;have dL:Hid (ay (v5.alloc (cO zO 187)) v5.heap.size 187 zO):=ay.new _ _ _;have ou:wr.heap.size<=v5.heap.size:=kM.u.size;refine ov hK (HK.u _ (dG.u)) fun ay4=>?_
     generalize v5.alloc (cO zO 187)=w6 at*
     generalize v5.heap.size=s at*
     clear kM
     exact DK
    ·go_simp;refine ov hK (HK.u _ (((xZ wr).alloc _).drew)) fun ay4=>?_
     refine o1 6 fun K hK=>?_
     go_simp;refine (HC.u _).mono ?_;rintro e w6 ⟨rfl,bK⟩;have dG:Hid (Ext wr w6):=Ext.trans ((xZ wr).alloc (cO zO 187)).drew bK;have dL:Hid (ay w6 wr.heap.size 187 zO):=((ay.new wr 187 zO).ext ((xZ _).drew)).ext bK;have ou:wr.heap.size<=wr.heap.size:=lI _;clear bK;refine ov hK (HK.u _ (dG.u)) fun ay4=>?_
     refine tq 7 ?_;refine tq 8 ?_;refine tq 9 ?_;obtain ⟨s,hs⟩:=ey (wr.heap.size);rw [<-hs] at dL |-;replace ou:wr.heap.size<=s:=gj
     clear hs
     exact DK
  ·have uo:k=l:=aa
   have St:Hid (fa n rs g=some ((rs.take k).map fun p=>cj p g)):=Sg HV.u (by rw [HL.u,uo]) HQ.u;clear uo;obtain ⟨⟨c0,c1⟩,-⟩:=bt xj.u.b;obtain ⟨⟨d0,d1⟩,f0,f1⟩:=bt TQ.u.2.2.1;obtain ⟨⟨t0,t1⟩,-⟩:=bt TQ.u.1;go_wp2;have sR:Hid (ay (dN wr (w.heap.size+2) (iI n) (.slice A' k cap)) (w.heap.size+2) 147 #[iI n,.slice A' k cap]):=TQ.u.2.2.1.dN _ _;refine bR (v:=.tuple #[.agg #[iI n,.slice A' k cap],.bool true]) ?_ rfl ?_
   rotate_left
   ·exact ⟨Jt St.u rfl (yi.put (rs:=[]) (n:=0) xj.u (oM TQ.u.2.2.2) _ _),dH (g:=w.heap.size+2) xj.u.x aa _ _⟩
   ·exact bF rfl _ _ _ _ _ _ _ rfl rfl sR.u underlying147 rfl fR
theorem eV (A:OA) (c:Nat) (n:Int) (rs:List Pa) (g:Gt) (w:World) (h:Rd w w.heap.size 4 A rs.length (aV rs)) (hl:rs.length<=2000000000000) (yc:rs.length<=c):
  Calls prog 128 #[.agg #[iI n,.slice A rs.length c],g.val] w fun e w'=>nz n (fa n rs g) e w'/\Ext w w':=
 (fH A c n rs g w h hl yc).mono fun e w' hh=>⟨by
  have h1:=hh.1
  cases ht:fa n rs g with
  |none=>rw [ht] at h1;exact h1
  |some r=>
   rw [ht] at h1;obtain ⟨v,he,B,d,hv,hr,hc,-⟩:=h1
   exact ⟨v,he,B,d,hv,hr,hc⟩,hh.2⟩
theorem DN {P:Prop} (h:P:=by
 refine o1 11 fun K hK=>?_
 obtain ⟨⟨q0,q1⟩,f0,f1⟩:=bt dL.u;go_simp;have eQ:Hid (Ext wr ((w6.setCell (aA s 0) (iI n)).setCell (aA s 1) (.slice A2 m c2))):=dH (g:=s) dG.u ou _ _;have lX:Hid (CT ((w6.setCell (aA s 0) (iI n)).setCell (aA s 1) (.slice A2 m c2)) n s A2 m c2 AE):=CT.fill rp.u Fy.u hm8 HM2.u dL.u;refine ov hK (HK.u _ (eQ.u)) fun ay4=>?_
 refine tq 12 ?_;refine dn ?_;clear q0 q1 f0 f1 ay4;generalize (w6.setCell (aA s 0) (iI n)).setCell (aA s 1) (.slice A2 m c2)=w7 at*
 have LO:=hY (BA.u.ext eQ.u);have HT7:=hY (HT.u.ext eQ.u);clear dG dL eQ Hg HK ou BA HT rp Fy HM2;obtain ⟨⟨y0,y1⟩,-⟩:=bt lX.u.1;obtain ⟨⟨c0,c1⟩,z0,z1⟩:=bt HT7.u.1;go_wp2;have HT8:=hY (lX.u.copy HT7.u.1);have HG8:=hY (LO.u.put (iI n) (.slice A2 m c2));go_roundw
 case rel=>exact ⟨k+1,AE,A2,m,c2,by first|rfl|rw [eM]|rw [iG],oM bS.u,HG8,HT8,mr⟩
 case measure=>simp [intOf,iG];have:=bS.u;omega):P:=h
theorem DO {P:Prop} (h:P:=by
 refine o1 11 fun K hK=>?_
 obtain ⟨⟨q0,q1⟩,f0,f1⟩:=bt dL.u;go_simp;have eQ:Hid (Ext wr ((w6.setCell (aA s 0) (iI 0)).setCell (aA s 1) (nS))):=dH (g:=s) dG.u ou _ _;refine ov hK (HK.u _ (eQ.u)) fun ay4=>?_
 refine tq 12 ?_;refine dn ?_;clear q0 q1 f0 f1 ay4;generalize (w6.setCell (aA s 0) (iI 0)).setCell (aA s 1) (nS)=w7 at*
 have LO:=hY (BA.u.ext eQ.u);have HT7:=hY (HT.u.ext eQ.u);clear dG dL eQ Hg HK ou BA HT;obtain ⟨⟨c0,c1⟩,z0,z1⟩:=bt LO.u.2.1;go_wp2;have sR:Hid (ay (dN _ (w.heap.size+1) (iI 0) (nS)) (w.heap.size+1) 147 jC):=(LO.u.2.1).dN _ _;refine bR (v:=.tuple #[.agg jC,.bool false]) ?_ rfl ?_
 rotate_left
 ·exact ⟨tr TR.u rfl,dH (g:=w.heap.size+1) (LO.u.2.2.2) aa _ _⟩
 ·exact bF rfl _ _ _ _ _ _ _ rfl rfl sR.u underlying147 rfl fR):P:=h
theorem jy (A:OA) (c:Nat) (n:Int) (gs:List Gt) (w:World) (h:Rd w w.heap.size 4 A gs.length (ak gs)) (hl:gs.length<=2000000000000):
  Calls prog 111 #[.agg #[iI n,.slice A gs.length c]] w fun e w'=>nz n (wk n gs) e w'/\Ext w w':=by
 go_enter func111,ntmps111;go_wp2_with fail;refine (jw A c n gs _ (h.ext aD) hl).mono ?_;rintro e w1 ⟨rfl,aS⟩;obtain ⟨l,df⟩:=ex (gs.length);rw [df] at h hl aS |-;have HL:=hY df;clear df;have Lp:Hid (∀q,w.heap.size+2<=q->CG w w1 A l c n q):=fun q hq=>⟨((ay.new w _ _).alloc _).ext aS,(ay.newAt (b:=w.heap.size+1) ag).ext aS,hq,Ext.trans aD aS⟩
 have nQ:w.heap.size+2<=w1.heap.size:=gl
 clear aS
 cases hv:MV n gs
 ·have TR:Hid (wk n gs=none):=Qw hv;clear hv;have HR:=(Lp.u _ (lI _)).2.1;have HE:=hY (Lp.u _ (lI _)).2.2.2;obtain ⟨⟨c0,c1⟩,z0,z1⟩:=bt HR;go_wp2;have sR:Hid (ay (dN _ (w.heap.size+1) (iI 0) (nS)) (w.heap.size+1) 147 jC):=(HR).dN _ _;refine bR (v:=.tuple #[.agg jC,.bool false]) ?_ rfl ?_
  rotate_left
  ·exact ⟨tr TR.u rfl,dH (g:=w.heap.size+1) (HE.u) aa _ _⟩
  ·exact bF rfl _ _ _ _ _ _ _ rfl rfl sR.u underlying147 rfl fR
 have HV:=hY hv;have HN:=hY (Wj hv);clear hv;have Vy:Hid (∀i,i<l->∃x,gs[i]?=some x):=fun i hi=>⟨_,lB (by rw [HL.u];exact hi)⟩
 obtain ⟨⟨b0,b1⟩,-⟩:=bt (Lp.u _ (lI _)).1;go_wp2_with fail;refine (fw n _ HN.u.1 HN.u.2).mono ?_;rintro e w2 ⟨⟨v,rfl,A0,c0,rfl,Hh,xf⟩,bH⟩;obtain ⟨Su,abc⟩:=ex (RE n.toNat);have hT0:rH n (gs.take 0)=some Su:=by rw [<-abc];exact Sk n gs
 have hm8:Su.length<=8:=by rw [<-abc,Qx];have:=HN.u;omega
 rw [abc] at Hh xf |-;clear abc;obtain ⟨m0,hm0⟩:=ex (Su.length);rw [hm0] at Hh xf hm8 |-;clear b0 b1;go_upto_region 4 with fail;obtain ⟨q,hq⟩:=ey (w2.heap.size);rw [<-hq];have HCG:Hid (CG w (w2.alloc (cO #[iI n,.slice A0 m0 c0] 147)) A l c n q):=(Lp.u q (oM bH.size)).ext (bH.alloc _);have HCT:Hid (CT (w2.alloc (cO #[iI n,.slice A0 m0 c0] 147)) n q A0 m0 c0 Su):=⟨ay.newAt hq,Hh.ext ((xZ _).alloc _),xf,hm8,hm0⟩;generalize w2.alloc (cO #[iI n,.slice A0 m0 c0] 147)=w3 at*
 have HT0:=hY hT0;clear hq nQ Lp bH Hh xf hm8 hm0 hT0;obtain ⟨⟨t0,t1⟩,-⟩:=bt HCG.u.1;go_wp2;clear t0 t1
 go_loopw [5] (fun iv wr=>∃(k:Nat) (rs:List Pa) (A':OA) (m c':Nat),iv=iI k/\k<=l/\Hid (CG w wr A l c n q)/\Hid (CT wr n q A' m c' rs)/\Hid (rH n (gs.take k)=some rs)) (fun i _=>l - (intOf i).toNat)
 case atStart=>exact ⟨0,Su,A0,m0,c0,rfl,lJ _,HCG,HCT,HT0⟩
 case round=>
  obtain ⟨k,rs,A',m,c',rfl,hk,BA,HT,HQ⟩:=hrel;clear HCG HCT HT0
  by_cases bh:k<l
  ·have bS:=hY bh;obtain ⟨b,o,g,rfl,hb,hg,-⟩:=bE h bh;have HG:=hY hg;have hm8:m<=8:=HT.u.2.2.2.1;have eM:=wA k aa;have iG:=wB k aa;have HK:Hid (∀w',Ext wr w'->(w'.cell? (aA w.z 0)=some (iI n)/\w'.cell? (aA w.z 1)=some (.slice (some ⟨b,o,none⟩) l c))/\(w'.cell? (aA b (o+k*4))=some (iI g.k)/\w'.cell? (aA b (o+k*4+1))=some (iI g.a)/\w'.cell? (aA b (o+k*4+2))=some (iI g.b)/\w'.cell? (aA b (o+k*4+3))=some (iI g.c))/\(w'.cell? (aA q 0)=some (iI n)/\w'.cell? (aA q 1)=some (.slice A' m c'))):=fun w' hx=>by
    obtain ⟨b2,o2,g2,he,-,jL,x0,x1,x2,x3⟩:=bE (h.up (BA.u.2.2.2.trans hx) (lI _)) bh;simp only [fW,iO] at he;obtain ⟨rfl,rfl,-⟩:=he;rw [hg] at jL;obtain rfl:=nT jL
    exact ⟨(bt (BA.u.1.ext hx)).1,⟨x0,x1,x2,x3⟩,(bt (HT.u.1.ext hx)).1⟩
   have Hg:Hid (∀w',Ext wr w'->Calls prog 128 #[.agg #[iI n,.slice A' m c'],.agg (gA g)] w' fun e w''=>nz n (fa n rs g) e w''/\Ext w' w''):=fun w' hx=>by
    obtain ⟨-,h2,h3,h4,h5⟩:=HT.u.ext hx;subst h5
    exact eV A' c' n rs g w' h2 aa h3
   clear hg
   cases ht:fa n rs g with
   |none=>
    have TR:Hid (wk n gs=none):=by
     unfold Hid;rw [Dz HV.u]
     exact Sl (k:=k+1) (by rw [Hc HG.u HQ.u];exact ht)
    have WD:=hY ht;clear ht;obtain ⟨⟨b0,b1⟩,-⟩:=HK.u wr (xZ _);go_upto_region 7 with fail;refine dm (S:=fun w'=>(w'.cell? (aA w.z 0)=some (iI n)/\w'.cell? (aA w.z 1)=some (.slice (some ⟨b,o,none⟩) l c))/\(w'.cell? (aA b (o+k*4))=some (iI g.k)/\w'.cell? (aA b (o+k*4+1))=some (iI g.a)/\w'.cell? (aA b (o+k*4+2))=some (iI g.b)/\w'.cell? (aA b (o+k*4+3))=some (iI g.c))/\(w'.cell? (aA q 0)=some (iI n)/\w'.cell? (aA q 1)=some (.slice A' m c'))) af (HK.u _ (xZ wr).drew) (fun ay4=>?_);clear b0 b1;refine tq 0 ?_;refine tq 1 ?_;refine tq 2 ?_;refine tq 3 ?_;refine tq 4 ?_;refine tq 5 ?_;refine o2 6 10 (fun K hK=>?_) fun K hK=>?_
    ·go_simp;refine (Hg.u _ (xZ wr).drew).mono ?_;rintro e v5 ⟨bz,bK⟩;obtain rfl:=wm WD.u bz;clear bz;have kM:Hid (Ext wr v5):=Ext.trans (xZ wr).drew bK;clear bK;refine ov hK (HK.u _ (kM.u)) fun ay4=>?_
     refine tq 7 ?_;refine tq 8 ?_;refine tq 9 ?_;refine o1 10 fun K hK=>?_
     go_simp;have dG:Hid (Ext wr (v5.alloc (cO jC 147))):=kM.u.alloc _;have dL:Hid (ay (v5.alloc (cO jC 147)) v5.heap.size 147 jC):=ay.new _ _ _;have ou:wr.heap.size<=v5.heap.size:=kM.u.size;refine ov hK (HK.u _ (dG.u)) fun ay4=>?_
     generalize v5.alloc (cO jC 147)=w6 at*
     generalize v5.heap.size=s at*
     clear kM
     exact DO
    ·go_simp;refine ov hK (HK.u _ (((xZ wr).alloc _).drew)) fun ay4=>?_
     refine o1 6 fun K hK=>?_
     go_simp;refine (Hg.u _ ((xZ wr).alloc (cO jC 147)).drew).mono ?_;rintro e w6 ⟨bz,bK⟩;obtain rfl:=wm WD.u bz;clear bz;have dG:Hid (Ext wr w6):=Ext.trans ((xZ wr).alloc (cO jC 147)).drew bK;have dL:Hid (ay w6 wr.heap.size 147 jC):=((ay.new wr 147 jC).ext ((xZ _).drew)).ext bK;have ou:wr.heap.size<=wr.heap.size:=lI _;clear bK;refine ov hK (HK.u _ (dG.u)) fun ay4=>?_
     refine tq 7 ?_;refine tq 8 ?_;refine tq 9 ?_;obtain ⟨s,hs⟩:=ey (wr.heap.size);rw [<-hs] at dL |-;replace ou:wr.heap.size<=s:=gj
     clear hs
     exact DO
   |some AE=>
    have mr:Hid (rH n (gs.take (k+1))=some AE):=by
     unfold Hid;rw [Hc HG.u HQ.u];exact ht
    have HM2:Hid (AE.length=m):=(DB ht).trans HT.u.2.2.2.2;have WD:=hY ht;clear ht;obtain ⟨⟨b0,b1⟩,-⟩:=HK.u wr (xZ _);go_upto_region 7 with fail;refine dm (S:=fun w'=>(w'.cell? (aA w.z 0)=some (iI n)/\w'.cell? (aA w.z 1)=some (.slice (some ⟨b,o,none⟩) l c))/\(w'.cell? (aA b (o+k*4))=some (iI g.k)/\w'.cell? (aA b (o+k*4+1))=some (iI g.a)/\w'.cell? (aA b (o+k*4+2))=some (iI g.b)/\w'.cell? (aA b (o+k*4+3))=some (iI g.c))/\(w'.cell? (aA q 0)=some (iI n)/\w'.cell? (aA q 1)=some (.slice A' m c'))) af (HK.u _ (xZ wr).drew) (fun ay4=>?_);clear b0 b1;refine tq 0 ?_;refine tq 1 ?_;refine tq 2 ?_;refine tq 3 ?_;refine tq 4 ?_;refine tq 5 ?_;refine o2 6 10 (fun K hK=>?_) fun K hK=>?_
    ·go_simp;refine (Hg.u _ (xZ wr).drew).mono ?_;rintro e v5 ⟨bz,bK⟩;obtain ⟨A2,c2,rfl,mg,Cs⟩:=jq WD.u HM2.u bz;clear bz;have iL:Hid (Rd v5 v5.heap.size 4 A2 m (aV AE)):=mg;have Fy:Hid (m<=c2):=Cs;clear mg Cs;have kM:Hid (Ext wr v5):=Ext.trans (xZ wr).drew bK;clear bK;refine ov hK (HK.u _ (kM.u)) fun ay4=>?_
     refine tq 7 ?_;refine tq 8 ?_;refine tq 9 ?_;refine o1 10 fun K hK=>?_
     go_simp;have dG:Hid (Ext wr (v5.alloc (cO jC 147))):=kM.u.alloc _;have dL:Hid (ay (v5.alloc (cO jC 147)) v5.heap.size 147 jC):=ay.new _ _ _;have rp:=hY (iL.u.ext ((xZ _).alloc (cO jC 147)));have ou:wr.heap.size<=v5.heap.size:=kM.u.size;refine ov hK (HK.u _ (dG.u)) fun ay4=>?_
     clear iL;generalize v5.alloc (cO jC 147)=w6 at*
     generalize v5.heap.size=s at*
     clear kM
     exact DN
    ·go_simp;refine ov hK (HK.u _ (((xZ wr).alloc _).drew)) fun ay4=>?_
     refine o1 6 fun K hK=>?_
     go_simp;refine (Hg.u _ ((xZ wr).alloc (cO jC 147)).drew).mono ?_;rintro e w6 ⟨bz,bK⟩;obtain ⟨A2,c2,rfl,mg,Cs⟩:=jq WD.u HM2.u bz;clear bz;have iL:Hid (Rd w6 w6.heap.size 4 A2 m (aV AE)):=mg;have Fy:Hid (m<=c2):=Cs;clear mg Cs;have dG:Hid (Ext wr w6):=Ext.trans ((xZ wr).alloc (cO jC 147)).drew bK;have dL:Hid (ay w6 wr.heap.size 147 jC):=((ay.new wr 147 jC).ext ((xZ _).drew)).ext bK;have rp:=iL;have ou:wr.heap.size<=wr.heap.size:=lI _;clear bK;refine ov hK (HK.u _ (dG.u)) fun ay4=>?_
     refine tq 7 ?_;refine tq 8 ?_;refine tq 9 ?_;clear iL;obtain ⟨s,hs⟩:=ey (wr.heap.size);rw [<-hs] at dL |-;replace ou:wr.heap.size<=s:=gj
     clear hs
     exact DN
  ·have uo:k=l:=aa
   have St:Hid (wk n gs=some rs):=by
    unfold Hid;rw [Dz HV.u,<-HQ.u,uo,<-HL.u,jt]
   clear uo;obtain ⟨⟨c0,c1⟩,-⟩:=bt HT.u.1;obtain ⟨⟨d0,d1⟩,f0,f1⟩:=bt BA.u.2.1;obtain ⟨⟨t0,t1⟩,-⟩:=bt BA.u.1;go_wp2;have sR:Hid (ay (dN wr (w.heap.size+1) (iI n) (.slice A' m c')) (w.heap.size+1) 147 #[iI n,.slice A' m c']):=BA.u.2.1.dN _ _;refine bR (v:=.tuple #[.agg #[iI n,.slice A' m c'],.bool true]) ?_ rfl ?_
   rotate_left
   ·exact ⟨AD St.u rfl (HT.u.u BA.u.2.1 _ _),dH (g:=w.heap.size+1) BA.u.2.2.2 aa _ _⟩
   ·exact bF rfl _ _ _ _ _ _ _ rfl rfl sR.u underlying147 rfl fR
theorem lg (A:OA) (c:Nat) (gs:List Gt) (w:World) (h:Rd w w.heap.size 4 A gs.length (ak gs)) (hl:gs.length<=2000000000000):
  Calls prog 163 #[.slice A gs.length c] w fun e w'=>nz 1 (wk 1 gs) e w'/\Ext w w':=by
 have HB:Hid (ay (w.alloc (cO jC 147)) w.heap.size 147 jC):=ay.new w _ _;have HX:Hid (Ext w (w.alloc (cO jC 147))):=(xZ w).alloc _;go_enter func163,ntmps163;go_wp2_with fail;refine (jy A c 1 gs _ (h.ext HX.u) hl).mono ?_;rintro e w1 ⟨bz,aS⟩;have hx:=HX.u.trans aS;obtain ⟨⟨a0,a1⟩,z0,z1⟩:=bt (HB.u.ext aS)
 cases ht:wk 1 gs with
 |none=>
  obtain rfl:=wm ht bz;have fV:=hY ((HB.u.ext aS).dN (iI 0) (nS));have kj:=hY (dH (g:=w.heap.size) hx (lI _) (iI 0) (nS));have HT:=hY ht;clear ht bz hx aS;go_wp2;refine bR (v:=.tuple #[.agg jC,.bool false]) ?_ rfl ?_
  rotate_left
  ·exact ⟨tr HT.u rfl,kj.u⟩
  ·exact bF rfl _ _ _ _ _ _ _ rfl rfl fV.u underlying147 rfl af
 |some rs=>
  obtain ⟨B,d,rfl,hr,hc⟩:=jq ht rfl bz;have fV:=hY ((HB.u.ext aS).dN (iI 1) (.slice B rs.length d));have kj:=hY (dH (g:=w.heap.size) hx (lI _) (iI 1) (.slice B rs.length d));have iL:Hid (Rd (dN w1 w.heap.size (iI 1) (.slice B rs.length d)) (dN w1 w.heap.size (iI 1) (.slice B rs.length d)).heap.size 4 B rs.length (aV rs)):=by rw [kx];exact qw hr (HB.u.ext aS) _ _
  have HC:=hY hc;have HT:=hY ht;clear ht bz hx aS hr hc;go_wp2;refine bR (v:=.tuple #[.agg #[iI 1,.slice B rs.length d],.bool true]) ?_ rfl ?_
  rotate_left
  ·exact ⟨AD HT.u rfl ⟨B,d,rfl,iL.u,HC.u⟩,kj.u⟩
  ·exact bF rfl _ _ _ _ _ _ _ rfl rfl fV.u underlying147 rfl af
theorem wz {P:Prop} (h:P:=by
 go_wp2;go_ret
 exact ⟨dZ HV.u.symm,kj.u⟩):P:=h
theorem uu (A:OA) (c:Nat) (r0 r1:Pa) (w:World) (h:Rd w w.heap.size 4 A 2 (aV [r0,r1])) (hc:2<=c) (hv:mB 1 [r0,r1]=true):
  Calls prog 162 #[.agg #[iI 1,.slice A 2 c]] w fun e w'=>e=.returned (iI (lZ [r0,r1]))/\Ext w w':=by
 have dk:Hid (Ext w (w.alloc (cO #[iI 1,.slice A 2 c] 147))):=(xZ w).alloc _;have ie:Hid (ay (w.alloc (cO #[iI 1,.slice A 2 c] 147)) w.heap.size 147 #[iI 1,.slice A 2 c]):=ay.new w _ _;have HIV:Hid (∀w',Ext w w'->Calls prog 141 #[.agg #[iI 1,.slice A 2 c]] w' fun e w''=>e=.returned (.bool true)/\Ext w' w''):=fun w' hx=>by
  have h9:=cC A c 1 [r0,r1] w' (h.ext hx) ag hc;rw [hv] at h9
  exact h9
 have HR:=hY h;clear hv h;go_enter func162,ntmps162;go_upto_region 1 with fail;generalize w.alloc (cO #[iI 1,.slice A 2 c] 147)=W1 at*
 obtain ⟨⟨t0,t1⟩,-⟩:=bt ie.u;go_wp2_with fail;refine (HIV.u _ dk.u).mono ?_;rintro e w2 ⟨rfl,bH⟩;have kj:=hY (dk.u.trans bH);have fV:=hY (ie.u.ext bH);clear bH t0 t1;obtain ⟨⟨t0,t1⟩,-⟩:=bt fV.u;obtain ⟨b,o,r,rfl,-,pD,-,x1,-⟩:=fD (HR.u.ext kj.u) (i:=1) aa
 cases pD
 obtain ⟨b',o',r',he,-,Hh,-,x0,-⟩:=fD (HR.u.ext kj.u) (i:=0) aa;simp only [fW,iO] at he;obtain ⟨rfl,rfl,-⟩:=he
 cases Hh
 rw [Iz,qY] at x0
 cases e1:(r1.x==0)
 ·cases e0:(r0.x==0)
  ·have HV:Hid (lZ [r0,r1]=2):=by
    unfold Hid lZ;rw [aK (by show ¬r1.x=0;simpa using e1),aK (by show ¬r0.x=0;simpa using e0)]
   exact wz
  ·have HV:Hid (lZ [r0,r1]=1):=by
    unfold Hid lZ;rw [aK (by show ¬r1.x=0;simpa using e1),aX (by show r0.x=0;simpa using e0)]
   exact wz
 ·have HV:Hid (lZ [r0,r1]=0):=by
   unfold Hid lZ;rw [aX (by show r1.x=0;simpa using e1)]
  exact wz
end Go.Proofs.YtiajdbllccmokaaGreatDoor
