import Derived.Test.YtodhjgngkkcjgaaGreatDoorXp
import Derived.Test.YtodhjgngkkcjgaaGreatDoorXo
import Derived.Test.YtodhjgngkkcjgaaGreatDoorXg
namespace Go.Proofs.YtodhjgngkkcjgaaGreatDoor
open Go.ChangeShapes Go.WideShapes Go.ChangeAt Go.RowKit Go.Deep Go.Proofs.Tryz
set_option linter.unusedVariables false
set_option linter.unusedSimpArgs false
set_option maxRecDepth 100000
set_option maxHeartbeats 16000000
def PB (w:World) (A:OA):Prop:=∀b o,A=some ⟨b,o,none⟩->∃cs,au w b 251 cs
theorem PB.ext {w w':World} {A:OA} (h:PB w A) (hx:Ext w w'):PB w' A:=fun b o e=>by
 obtain ⟨cs,hb⟩:=h b o e
 exact ⟨cs,hb.ext hx⟩
theorem PB.own {w:World} {B len cap:Nat} {A:OA} {xs:List Value} (h:w.ownsRow B 251 4 (.slice A len cap) len xs):PB w A:=fun b o e=>by
 subst e;rcases h.2 with ⟨h0,hn⟩|⟨g,jM,cur,hv,hB,hc,-⟩
 ·cases h0
 ·injection hv with e1;injection e1 with e1;injection e1 with e1;subst e1
  exact ⟨cur,hc⟩
def BU (n:Int) (rs:List Pa) (v:Value) (w:World):Prop:=∃(A:OA) (c:Nat),v=.agg #[iI n,.slice A rs.length c]/\Rd w w.heap.size 4 A rs.length (aX rs)/\rs.length<=c/\PB w A
theorem BU.put {n:Int} {rs:List Pa} {N:Int} {A:OA} {len cap:Nat} {xs:List Pa} {W1 w:World} {g r:Nat} (h:DT W1 w g N A len cap xs) (hr:r<g) (a b:Value):BU N xs (.agg #[iI N,.slice A len cap]) (eh w r a b):=by
 have hl:=h.len_;have ho:=bo (bo h.o (p:=(aA r 0)) (by show r<g+1;omega) a) (p:=(aA r 1)) (by show r<g+1;omega) b;have hrd:=Rd.own ho;have hp:=PB.own ho;have hc:=h.cap_;subst hl
 exact ⟨A,cap,rfl,hrd,hc,hp⟩
def Fk (n:Int) (t:Option (List Pa)) (e:Ending) (w:World):Prop:=
 match t with
 |none=>e=.returned (.tuple #[.agg jC,.bool false])
 |some rs=>∃v,e=.returned (.tuple #[v,.bool true])/\BU n rs v w
theorem BV {n:Int} {t:Option (List Pa)} {e:Ending} {w:World} (h:t=none) (he:e=.returned (.tuple #[.agg jC,.bool false])):Fk n t e w:=by subst h;exact he
theorem OE {n:Int} {t:Option (List Pa)} {rs:List Pa} {e:Ending} {w:World} {v:Value} (h:t=some rs) (he:e=.returned (.tuple #[v,.bool true])) (ho:BU n rs v w):Fk n t e w:=by subst h;exact ⟨v,he,ho⟩
theorem IG {P:Prop} (h:P:=by
 refine o1 11 fun K hK=>?_
 obtain ⟨⟨q0,q1,q2,q3⟩,f0,f1,f2,f3⟩:=aB dP.u;go_simp;have fz:Hid (Ext wr ((((w6.setCell (aA s 0) (iI y.n)).setCell (aA s 1) (iI y.x)).setCell (aA s 2) (iI y.z)).setCell (aA s 3) (iI y.p))):=aW (g:=s) dL.u sH _ _ _ _;have nZ:Hid (au ((((w6.setCell (aA s 0) (iI y.n)).setCell (aA s 1) (iI y.x)).setCell (aA s 2) (iI y.z)).setCell (aA s 3) (iI y.p)) s 251 (jF y)):=dP.u.bR _ _ _ _;refine ov hK (HK.u _ (fz.u)) fun aEQ=>?_
 refine tq 12 ?_;refine dn ?_;clear q0 q1 q2 q3 f0 f1 f2 f3 aEQ;generalize ((((w6.setCell (aA s 0) (iI y.n)).setCell (aA s 1) (iI y.x)).setCell (aA s 2) (iI y.z)).setCell (aA s 3) (iI y.p))=w7 at*
 have HD7:=hY (Bg.u.ext fz.u);have HA7:=hY (HA0.u.ext fz.u);clear dL dP fz HC HK sH Bg HA0;obtain ⟨⟨c0,c1⟩,-⟩:=bu HD7.u.b;obtain ⟨⟨y0,y1,y2,y3⟩,-⟩:=aB nZ.u;go_wp2_with (at_builtin;refine DT.app (HD7.u.ext ((xZ _).alloc (cO (jF y) 251))) rfl _ _ rfl rfl y _ rfl (dZ _ _ _ 4 _ eV eV) aa ?_;intro A7 c7 w8 ⟨Mc,hD7,Lp⟩;have k6:w8.cell? (aA q 1)=some (.slice A' k cap):=Mc.cell 1;have f6:w8.frozen? (aA q 1)=false:=Mc.frozen 1)
 have Za:=hY hD7;have HA8:=hY ((HA7.u.ext ((xZ _).alloc (cO (jF y) 251))).left Lp);clear Mc hD7 Lp;go_roundw
 case rel=>exact ⟨k+1,A7,c7,by first|rfl|rw [et]|rw [iM],oM bZ.u,by rw [HY.u];exact Za,HA8,oH⟩
 case measure=>simp [intOf,iM];have:=bZ.u;omega):P:=h
theorem IH {P:Prop} (h:P:=by
 refine o1 11 fun K hK=>?_
 obtain ⟨⟨q0,q1,q2,q3⟩,f0,f1,f2,f3⟩:=aB dP.u;go_simp;have fz:Hid (Ext wr ((((w6.setCell (aA s 0) (iI y.n)).setCell (aA s 1) (iI y.x)).setCell (aA s 2) (iI y.z)).setCell (aA s 3) (iI y.p))):=aW (g:=s) dL.u sH _ _ _ _;have nZ:Hid (au ((((w6.setCell (aA s 0) (iI y.n)).setCell (aA s 1) (iI y.x)).setCell (aA s 2) (iI y.z)).setCell (aA s 3) (iI y.p)) s 251 (jF y)):=dP.u.bR _ _ _ _;refine ov hK (HK.u _ (fz.u)) fun aEQ=>?_
 refine tq 12 ?_;refine dn ?_;clear q0 q1 q2 q3 f0 f1 f2 f3 aEQ;generalize ((((w6.setCell (aA s 0) (iI y.n)).setCell (aA s 1) (iI y.x)).setCell (aA s 2) (iI y.z)).setCell (aA s 3) (iI y.p))=w7 at*
 have HD7:=hY (Bg.u.ext fz.u);have HA7:=hY (HA0.u.ext fz.u);clear dL dP fz HC HK sH Bg HA0;obtain ⟨⟨c0,c1⟩,z0,z1⟩:=bu HA7.u.2.2.1;go_wp2;have wh:Hid (au (eh _ (w.heap.size+2) (iI 0) (nS)) (w.heap.size+2) 207 jC):=(HA7.u.2.2.1).eh _ _;refine bJ (v:=.tuple #[.agg jC,.bool false]) ?_ rfl ?_
 rotate_left
 ·exact ⟨BV HNO.u rfl,dK (g:=w.heap.size+2) (HD7.u.x) aa _ _⟩
 ·exact aR rfl _ _ _ _ _ _ _ rfl rfl wh.u yv rfl gZ):P:=h
theorem II {P:Prop} (h:P:=by
 refine (sB p g w').mono ?_;rintro e w'' ⟨he,hx⟩
 exact ⟨by rw [<-hy,<-sj];exact he,hx⟩):P:=h
theorem gK (A:OA) (c:Nat) (n:Int) (rs:List Pa) (g:Gt) (w:World) (h:Rd w w.heap.size 4 A rs.length (aX rs)) (hl:rs.length<=2000000000000) (BP:rs.length<=c):
  Calls prog 189 #[.agg #[iI n,.slice A rs.length c],g.val] w fun e w'=>Fk n (fL n rs g) e w'/\Ext w w':=by
 go_enter func189,ntmps189;go_wp2_with fail;refine (dp A c n rs _ (h.ext aw) hl BP).mono ?_;rintro e w1 ⟨rfl,aK⟩;obtain ⟨l,di⟩:=ex (rs.length);rw [di] at h hl BP aK |-;have HL:=hY di;clear di;have HA1:Hid (∀q,w.heap.size+3<=q->AG w w1 A l c n g q):=fun q hq=>⟨(((au.new w _ _).alloc _).alloc _).ext aK,((au.newAt (b:=w.heap.size+1) ag).alloc _).ext aK,(au.newAt (b:=w.heap.size+2) ag).ext aK,hq⟩
 have cH:Hid (Ext w w1):=Ext.trans aw aK;have pR:w.heap.size+3<=w1.heap.size:=iq
 clear aK
 cases hv:oO n rs
 ·have HNO:Hid (fL n rs g=none):=ahe hv;clear hv;have HR:=HA1.u _ (lI _);have HR':=HR.2.2.1;clear HR;obtain ⟨⟨c0,c1⟩,z0,z1⟩:=bu HR';go_wp2;have wh:Hid (au (eh _ (w.heap.size+2) (iI 0) (nS)) (w.heap.size+2) 207 jC):=HR'.eh _ _;refine bJ (v:=.tuple #[.agg jC,.bool false]) ?_ rfl ?_
  rotate_left
  ·exact ⟨BV HNO.u rfl,dK (g:=w.heap.size+2) (cH.u) aa _ _⟩
  ·exact aR rfl _ _ _ _ _ _ _ rfl rfl wh.u yv rfl gZ
 have HV:=hY hv;have HVL:=hY (acV hv);clear hv;obtain ⟨b,o,rfl,-,-⟩:=h.2 (oN HVL.u HL.u);have acr:Hid (∀i,i<l->∃x,rs[i]?=some x):=fun i hi=>⟨_,lB (by rw [HL.u];exact hi)⟩
 have hl8:l<=8:=oN HVL.u HL.u
 clear hl BP;obtain ⟨⟨t0,t1⟩,-⟩:=bu (HA1.u _ (lI _)).1;go_upto_region 4 with fail;obtain ⟨q,hq⟩:=ey (w1.heap.size);rw [<-hq];have HAG:Hid (AG w (w1.alloc (cO #[iI n,nS] 207)) (some ⟨b,o,none⟩) l c n g q):=(HA1.u q aa).ext ((xZ _).alloc _);have HD:Hid (DT w (w1.alloc (cO #[iI n,nS] 207)) q n none 0 0 []):=⟨au.newAt hq,⟨rfl,Or.inl ⟨rfl,rfl⟩⟩,cH.u.alloc _,aa⟩;clear t0 t1;generalize w1.alloc (cO #[iI n,nS] 207)=w2 at*
 clear hq pR HA1 cH;obtain ⟨⟨t0,t1⟩,-⟩:=bu HAG.u.1;go_wp2;clear t0 t1
 go_loopw [7] (fun iv wr=>∃(k:Nat) (A':OA) (cap:Nat),iv=iI k/\k<=l/\Hid (DT w wr q n A' k cap ((rs.take k).map fun p=>cj p g))/\Hid (AG w wr (some ⟨b,o,none⟩) l c n g q)/\Hid ((rs.take k).all (fun p=>uT p g)=true)) (fun i _=>l - (intOf i).toNat)
 case atStart=>exact ⟨0,none,0,rfl,lJ _,sU HD,HAG,by simp [Hid]⟩
 case round=>
  obtain ⟨k,A',cap,rfl,hk,Bg,HA0,HQ⟩:=hrel;clear HD HAG
  by_cases ba:k<l
  ·have bZ:=hY ba;obtain ⟨p,hp⟩:=acr.u k ba;have HP:=hY hp;clear hp;obtain ⟨y,hy⟩:=ex (cj p g);have HY:Hid ((rs.take (k+1)).map (fun p=>cj p g)=((rs.take k).map fun p=>cj p g)++[y]):=by unfold Hid;rw [Zk _ HP.u,hy]
   have et:=wA k aa;have iM:=wB k aa;have HK:Hid (∀w',Ext wr w'->(w'.cell? (aA w.z 0)=some (iI n)/\w'.cell? (aA w.z 1)=some (.slice (some ⟨b,o,none⟩) l c))/\(w'.cell? (aA b (o+k*4))=some (iI p.n)/\w'.cell? (aA b (o+k*4+1))=some (iI p.x)/\w'.cell? (aA b (o+k*4+2))=some (iI p.z)/\w'.cell? (aA b (o+k*4+3))=some (iI p.p))/\(w'.cell? (aA (w.z+1) 0)=some (iI g.k)/\w'.cell? (aA (w.z+1) 1)=some (iI g.a)/\w'.cell? (aA (w.z+1) 2)=some (iI g.b)/\w'.cell? (aA (w.z+1) 3)=some (iI g.c))):=fun w' hx=>⟨(bu (HA0.u.1.ext hx)).1,Oe (h.up (Bg.u.x.trans hx) (lI _)) bZ.u HP.u,(aB (HA0.u.2.1.ext hx)).1⟩
   obtain ⟨⟨b0,b1⟩,-⟩:=HK.u wr (xZ _)
   cases sj:uT p g
   ·have HC:Hid (∀w',Calls prog 203 #[.agg (jF p),.agg (gA g)] w' fun e w''=>e=.returned (.tuple #[.agg (jF y),.bool false])/\Ext w' w''):=fun w'=>by
     exact II
    have HNO:Hid (fL n rs g=none):=acU HP.u sj;clear sj hy;go_upto_region 7 with fail;refine dt (S:=fun w'=>(w'.cell? (aA w.z 0)=some (iI n)/\w'.cell? (aA w.z 1)=some (.slice (some ⟨b,o,none⟩) l c))/\(w'.cell? (aA b (o+k*4))=some (iI p.n)/\w'.cell? (aA b (o+k*4+1))=some (iI p.x)/\w'.cell? (aA b (o+k*4+2))=some (iI p.z)/\w'.cell? (aA b (o+k*4+3))=some (iI p.p))/\(w'.cell? (aA (w.z+1) 0)=some (iI g.k)/\w'.cell? (aA (w.z+1) 1)=some (iI g.a)/\w'.cell? (aA (w.z+1) 2)=some (iI g.b)/\w'.cell? (aA (w.z+1) 3)=some (iI g.c))) af (HK.u _ (xZ wr).drew) (fun aEQ=>?_);refine tq 0 ?_;refine tq 1 ?_;refine tq 2 ?_;refine tq 3 ?_;refine tq 4 ?_;refine tq 5 ?_;refine o2 6 10 (fun K hK=>?_) fun K hK=>?_
    ·go_simp;refine (HC.u _).mono ?_;rintro e v5 ⟨rfl,cf⟩;have nh:Hid (Ext wr v5):=Ext.trans (xZ wr).drew cf;clear cf;refine ov hK (HK.u _ (nh.u)) fun aEQ=>?_
     refine tq 7 ?_;refine tq 8 ?_;refine tq 9 ?_;refine o1 10 fun K hK=>?_
     go_simp;have dL:Hid (Ext wr (v5.alloc (cO zO 251))):=nh.u.alloc _;have dP:Hid (au (v5.alloc (cO zO 251)) v5.heap.size 251 zO):=au.new _ _ _;have sH:wr.heap.size<=v5.heap.size:=nh.u.size;refine ov hK (HK.u _ (dL.u)) fun aEQ=>?_
     generalize v5.alloc (cO zO 251)=w6 at*
     generalize v5.heap.size=s at*
     clear nh
     exact IH
    ·go_simp;refine ov hK (HK.u _ (((xZ wr).alloc _).drew)) fun aEQ=>?_
     refine o1 6 fun K hK=>?_
     go_simp;refine (HC.u _).mono ?_;rintro e w6 ⟨rfl,cf⟩;have dL:Hid (Ext wr w6):=Ext.trans ((xZ wr).alloc (cO zO 251)).drew cf;have dP:Hid (au w6 wr.heap.size 251 zO):=((au.new wr 251 zO).ext ((xZ _).drew)).ext cf;have sH:wr.heap.size<=wr.heap.size:=lI _;clear cf;refine ov hK (HK.u _ (dL.u)) fun aEQ=>?_
     refine tq 7 ?_;refine tq 8 ?_;refine tq 9 ?_;obtain ⟨s,hs⟩:=ey (wr.heap.size);rw [<-hs] at dP |-;replace sH:wr.heap.size<=s:=im
     clear hs
     exact IH
   ·have HC:Hid (∀w',Calls prog 203 #[.agg (jF p),.agg (gA g)] w' fun e w''=>e=.returned (.tuple #[.agg (jF y),.bool true])/\Ext w' w''):=fun w'=>by
     exact II
    have oH:Hid ((rs.take (k+1)).all (fun p=>uT p g)=true):=Mr (fun p=>uT p g) HP.u HQ.u sj;clear sj hy;go_upto_region 7 with fail;refine dt (S:=fun w'=>(w'.cell? (aA w.z 0)=some (iI n)/\w'.cell? (aA w.z 1)=some (.slice (some ⟨b,o,none⟩) l c))/\(w'.cell? (aA b (o+k*4))=some (iI p.n)/\w'.cell? (aA b (o+k*4+1))=some (iI p.x)/\w'.cell? (aA b (o+k*4+2))=some (iI p.z)/\w'.cell? (aA b (o+k*4+3))=some (iI p.p))/\(w'.cell? (aA (w.z+1) 0)=some (iI g.k)/\w'.cell? (aA (w.z+1) 1)=some (iI g.a)/\w'.cell? (aA (w.z+1) 2)=some (iI g.b)/\w'.cell? (aA (w.z+1) 3)=some (iI g.c))) af (HK.u _ (xZ wr).drew) (fun aEQ=>?_);refine tq 0 ?_;refine tq 1 ?_;refine tq 2 ?_;refine tq 3 ?_;refine tq 4 ?_;refine tq 5 ?_;refine o2 6 10 (fun K hK=>?_) fun K hK=>?_
    ·go_simp;refine (HC.u _).mono ?_;rintro e v5 ⟨rfl,cf⟩;have nh:Hid (Ext wr v5):=Ext.trans (xZ wr).drew cf;clear cf;refine ov hK (HK.u _ (nh.u)) fun aEQ=>?_
     refine tq 7 ?_;refine tq 8 ?_;refine tq 9 ?_;refine o1 10 fun K hK=>?_
     go_simp;have dL:Hid (Ext wr (v5.alloc (cO zO 251))):=nh.u.alloc _;have dP:Hid (au (v5.alloc (cO zO 251)) v5.heap.size 251 zO):=au.new _ _ _;have sH:wr.heap.size<=v5.heap.size:=nh.u.size;refine ov hK (HK.u _ (dL.u)) fun aEQ=>?_
     generalize v5.alloc (cO zO 251)=w6 at*
     generalize v5.heap.size=s at*
     clear nh
     exact IG
    ·go_simp;refine ov hK (HK.u _ (((xZ wr).alloc _).drew)) fun aEQ=>?_
     refine o1 6 fun K hK=>?_
     go_simp;refine (HC.u _).mono ?_;rintro e w6 ⟨rfl,cf⟩;have dL:Hid (Ext wr w6):=Ext.trans ((xZ wr).alloc (cO zO 251)).drew cf;have dP:Hid (au w6 wr.heap.size 251 zO):=((au.new wr 251 zO).ext ((xZ _).drew)).ext cf;have sH:wr.heap.size<=wr.heap.size:=lI _;clear cf;refine ov hK (HK.u _ (dL.u)) fun aEQ=>?_
     refine tq 7 ?_;refine tq 8 ?_;refine tq 9 ?_;obtain ⟨s,hs⟩:=ey (wr.heap.size);rw [<-hs] at dP |-;replace sH:wr.heap.size<=s:=im
     clear hs
     exact IG
  ·have wE:k=l:=aa
   have Zw:Hid (fL n rs g=some ((rs.take k).map fun p=>cj p g)):=Zj HV.u (by rw [HL.u,wE]) HQ.u;clear wE;obtain ⟨⟨c0,c1⟩,-⟩:=bu Bg.u.b;obtain ⟨⟨d0,d1⟩,f0,f1⟩:=bu HA0.u.2.2.1;obtain ⟨⟨t0,t1⟩,-⟩:=bu HA0.u.1;go_wp2;have wh:Hid (au (eh wr (w.heap.size+2) (iI n) (.slice A' k cap)) (w.heap.size+2) 207 #[iI n,.slice A' k cap]):=HA0.u.2.2.1.eh _ _;refine bJ (v:=.tuple #[.agg #[iI n,.slice A' k cap],.bool true]) ?_ rfl ?_
   rotate_left
   ·exact ⟨OE Zw.u rfl (BU.put (rs:=[]) (n:=0) Bg.u (oM HA0.u.2.2.2) _ _),dK (g:=w.heap.size+2) Bg.u.x aa _ _⟩
   ·exact aR rfl _ _ _ _ _ _ _ rfl rfl wh.u yv rfl gZ
theorem fF (A:OA) (c:Nat) (n:Int) (rs:List Pa) (g:Gt) (w:World) (h:Rd w w.heap.size 4 A rs.length (aX rs)) (hl:rs.length<=2000000000000) (BP:rs.length<=c):
  Calls prog 189 #[.agg #[iI n,.slice A rs.length c],g.val] w fun e w'=>pV n (fL n rs g) e w'/\Ext w w':=
 (gK A c n rs g w h hl BP).mono fun e w' hh=>⟨by
  have h1:=hh.1
  cases ht:fL n rs g with
  |none=>rw [ht] at h1;exact h1
  |some r=>
   rw [ht] at h1;obtain ⟨v,he,B,d,hv,hr,hc,-⟩:=h1
   exact ⟨v,he,B,d,hv,hr,hc⟩,hh.2⟩
theorem IJ {P:Prop} (h:P:=by
 refine o1 11 fun K hK=>?_
 obtain ⟨⟨q0,q1⟩,f0,f1⟩:=bu dP.u;go_simp;have fz:Hid (Ext wr ((w6.setCell (aA s 0) (iI n)).setCell (aA s 1) (.slice A2 m c2))):=dK (g:=s) dL.u sH _ _;have nZ:Hid (CT ((w6.setCell (aA s 0) (iI n)).setCell (aA s 1) (.slice A2 m c2)) n s A2 m c2 Eg):=CT.fill wH.u Qf.u hm8 HM2.u dP.u;refine ov hK (HK.u _ (fz.u)) fun aEQ=>?_
 refine tq 12 ?_;refine dn ?_;clear q0 q1 f0 f1 aEQ;generalize (w6.setCell (aA s 0) (iI n)).setCell (aA s 1) (.slice A2 m c2)=w7 at*
 have RP:=hY (MA.u.ext fz.u);have HT7:=hY (HT.u.ext fz.u);clear dL dP fz MB HK sH MA HT wH Qf HM2;obtain ⟨⟨y0,y1⟩,-⟩:=bu nZ.u.1;obtain ⟨⟨c0,c1⟩,z0,z1⟩:=bu HT7.u.1;go_wp2;have HT8:=hY (nZ.u.copy HT7.u.1);have HG8:=hY (RP.u.put (iI n) (.slice A2 m c2));go_roundw
 case rel=>exact ⟨k+1,Eg,A2,m,c2,by first|rfl|rw [et]|rw [iM],oM bZ.u,HG8,HT8,oH⟩
 case measure=>simp [intOf,iM];have:=bZ.u;omega):P:=h
theorem IK {P:Prop} (h:P:=by
 refine o1 11 fun K hK=>?_
 obtain ⟨⟨q0,q1⟩,f0,f1⟩:=bu dP.u;go_simp;have fz:Hid (Ext wr ((w6.setCell (aA s 0) (iI 0)).setCell (aA s 1) (nS))):=dK (g:=s) dL.u sH _ _;refine ov hK (HK.u _ (fz.u)) fun aEQ=>?_
 refine tq 12 ?_;refine dn ?_;clear q0 q1 f0 f1 aEQ;generalize (w6.setCell (aA s 0) (iI 0)).setCell (aA s 1) (nS)=w7 at*
 have RP:=hY (MA.u.ext fz.u);have HT7:=hY (HT.u.ext fz.u);clear dL dP fz MB HK sH MA HT;obtain ⟨⟨c0,c1⟩,z0,z1⟩:=bu RP.u.2.1;go_wp2;have wh:Hid (au (eh _ (w.heap.size+1) (iI 0) (nS)) (w.heap.size+1) 207 jC):=(RP.u.2.1).eh _ _;refine bJ (v:=.tuple #[.agg jC,.bool false]) ?_ rfl ?_
 rotate_left
 ·exact ⟨wK HNO.u rfl,dK (g:=w.heap.size+1) (RP.u.2.2.2) aa _ _⟩
 ·exact aR rfl _ _ _ _ _ _ _ rfl rfl wh.u yv rfl gZ):P:=h
theorem kB (A:OA) (c:Nat) (n:Int) (gs:List Gt) (w:World) (h:Rd w w.heap.size 4 A gs.length (aq gs)) (hl:gs.length<=2000000000000):
  Calls prog 172 #[.agg #[iI n,.slice A gs.length c]] w fun e w'=>pV n (zZ n gs) e w'/\Ext w w':=by
 go_enter func172,ntmps172;go_wp2_with fail;refine (kA A c n gs _ (h.ext aw) hl).mono ?_;rintro e w1 ⟨rfl,aK⟩;obtain ⟨l,di⟩:=ex (gs.length);rw [di] at h hl aK |-;have HL:=hY di;clear di;have Mq:Hid (∀q,w.heap.size+2<=q->CG w w1 A l c n q):=fun q hq=>⟨((au.new w _ _).alloc _).ext aK,(au.newAt (b:=w.heap.size+1) ag).ext aK,hq,Ext.trans aw aK⟩
 have pR:w.heap.size+2<=w1.heap.size:=iq
 clear aK
 cases hv:Tl n gs
 ·have HNO:Hid (zZ n gs=none):=WJ hv;clear hv;have HR:=(Mq.u _ (lI _)).2.1;have HE:=hY (Mq.u _ (lI _)).2.2.2;obtain ⟨⟨c0,c1⟩,z0,z1⟩:=bu HR;go_wp2;have wh:Hid (au (eh _ (w.heap.size+1) (iI 0) (nS)) (w.heap.size+1) 207 jC):=(HR).eh _ _;refine bJ (v:=.tuple #[.agg jC,.bool false]) ?_ rfl ?_
  rotate_left
  ·exact ⟨wK HNO.u rfl,dK (g:=w.heap.size+1) (HE.u) aa _ _⟩
  ·exact aR rfl _ _ _ _ _ _ _ rfl rfl wh.u yv rfl gZ
 have HV:=hY hv;have HN:=hY (acW hv);clear hv;have acr:Hid (∀i,i<l->∃x,gs[i]?=some x):=fun i hi=>⟨_,lB (by rw [HL.u];exact hi)⟩
 obtain ⟨⟨b0,b1⟩,-⟩:=bu (Mq.u _ (lI _)).1;go_wp2_with fail;refine (gj n _ HN.u.1 HN.u.2).mono ?_;rintro e w2 ⟨⟨v,rfl,A0,c0,rfl,MC,rV⟩,bz⟩;obtain ⟨Zx,ahp⟩:=ex (YI n.toNat);have hT0:uV n (gs.take 0)=some Zx:=by rw [<-ahp];exact Zo n gs
 have hm8:Zx.length<=8:=by rw [<-ahp,WL];have:=HN.u;omega
 rw [ahp] at MC rV |-;clear ahp;obtain ⟨m0,Oh⟩:=ex (Zx.length);rw [Oh] at MC rV hm8 |-;clear b0 b1;go_upto_region 4 with fail;obtain ⟨q,hq⟩:=ey (w2.heap.size);rw [<-hq];have WX:Hid (CG w (w2.alloc (cO #[iI n,.slice A0 m0 c0] 207)) A l c n q):=(Mq.u q (oM bz.size)).ext (bz.alloc _);have HCT:Hid (CT (w2.alloc (cO #[iI n,.slice A0 m0 c0] 207)) n q A0 m0 c0 Zx):=⟨au.newAt hq,MC.ext ((xZ _).alloc _),rV,hm8,Oh⟩;generalize w2.alloc (cO #[iI n,.slice A0 m0 c0] 207)=w3 at*
 have HT0:=hY hT0;clear hq pR Mq bz MC rV hm8 Oh hT0;obtain ⟨⟨t0,t1⟩,-⟩:=bu WX.u.1;go_wp2;clear t0 t1
 go_loopw [5] (fun iv wr=>∃(k:Nat) (rs:List Pa) (A':OA) (m c':Nat),iv=iI k/\k<=l/\Hid (CG w wr A l c n q)/\Hid (CT wr n q A' m c' rs)/\Hid (uV n (gs.take k)=some rs)) (fun i _=>l - (intOf i).toNat)
 case atStart=>exact ⟨0,Zx,A0,m0,c0,rfl,lJ _,WX,HCT,HT0⟩
 case round=>
  obtain ⟨k,rs,A',m,c',rfl,hk,MA,HT,HQ⟩:=hrel;clear WX HCT HT0
  by_cases ba:k<l
  ·have bZ:=hY ba;obtain ⟨b,o,g,rfl,hb,hg,-⟩:=bT h ba;have HG:=hY hg;have hm8:m<=8:=HT.u.2.2.2.1;have et:=wA k aa;have iM:=wB k aa;have HK:Hid (∀w',Ext wr w'->(w'.cell? (aA w.z 0)=some (iI n)/\w'.cell? (aA w.z 1)=some (.slice (some ⟨b,o,none⟩) l c))/\(w'.cell? (aA b (o+k*4))=some (iI g.k)/\w'.cell? (aA b (o+k*4+1))=some (iI g.a)/\w'.cell? (aA b (o+k*4+2))=some (iI g.b)/\w'.cell? (aA b (o+k*4+3))=some (iI g.c))/\(w'.cell? (aA q 0)=some (iI n)/\w'.cell? (aA q 1)=some (.slice A' m c'))):=fun w' hx=>by
    obtain ⟨b2,o2,g2,he,-,jW,x0,x1,x2,x3⟩:=bT (h.up (MA.u.2.2.2.trans hx) (lI _)) ba;simp only [iG,jR] at he;obtain ⟨rfl,rfl,-⟩:=he;rw [hg] at jW;obtain rfl:=kx jW
    exact ⟨(bu (MA.u.1.ext hx)).1,⟨x0,x1,x2,x3⟩,(bu (HT.u.1.ext hx)).1⟩
   have MB:Hid (∀w',Ext wr w'->Calls prog 189 #[.agg #[iI n,.slice A' m c'],.agg (gA g)] w' fun e w''=>pV n (fL n rs g) e w''/\Ext w' w''):=fun w' hx=>by
    obtain ⟨-,h2,h3,h4,h5⟩:=HT.u.ext hx;subst h5
    exact fF A' c' n rs g w' h2 aa h3
   clear hg
   cases ht:fL n rs g with
   |none=>
    have HNO:Hid (zZ n gs=none):=by
     unfold Hid;rw [Ix HV.u]
     exact Zp (k:=k+1) (by rw [Mu HG.u HQ.u];exact ht)
    have HTG:=hY ht;clear ht;obtain ⟨⟨b0,b1⟩,-⟩:=HK.u wr (xZ _);go_upto_region 7 with fail;refine dt (S:=fun w'=>(w'.cell? (aA w.z 0)=some (iI n)/\w'.cell? (aA w.z 1)=some (.slice (some ⟨b,o,none⟩) l c))/\(w'.cell? (aA b (o+k*4))=some (iI g.k)/\w'.cell? (aA b (o+k*4+1))=some (iI g.a)/\w'.cell? (aA b (o+k*4+2))=some (iI g.b)/\w'.cell? (aA b (o+k*4+3))=some (iI g.c))/\(w'.cell? (aA q 0)=some (iI n)/\w'.cell? (aA q 1)=some (.slice A' m c'))) af (HK.u _ (xZ wr).drew) (fun aEQ=>?_);clear b0 b1;refine tq 0 ?_;refine tq 1 ?_;refine tq 2 ?_;refine tq 3 ?_;refine tq 4 ?_;refine tq 5 ?_;refine o2 6 10 (fun K hK=>?_) fun K hK=>?_
    ·go_simp;refine (MB.u _ (xZ wr).drew).mono ?_;rintro e v5 ⟨bD,cf⟩;obtain rfl:=Ah HTG.u bD;clear bD;have nh:Hid (Ext wr v5):=Ext.trans (xZ wr).drew cf;clear cf;refine ov hK (HK.u _ (nh.u)) fun aEQ=>?_
     refine tq 7 ?_;refine tq 8 ?_;refine tq 9 ?_;refine o1 10 fun K hK=>?_
     go_simp;have dL:Hid (Ext wr (v5.alloc (cO jC 207))):=nh.u.alloc _;have dP:Hid (au (v5.alloc (cO jC 207)) v5.heap.size 207 jC):=au.new _ _ _;have sH:wr.heap.size<=v5.heap.size:=nh.u.size;refine ov hK (HK.u _ (dL.u)) fun aEQ=>?_
     generalize v5.alloc (cO jC 207)=w6 at*
     generalize v5.heap.size=s at*
     clear nh
     exact IK
    ·go_simp;refine ov hK (HK.u _ (((xZ wr).alloc _).drew)) fun aEQ=>?_
     refine o1 6 fun K hK=>?_
     go_simp;refine (MB.u _ ((xZ wr).alloc (cO jC 207)).drew).mono ?_;rintro e w6 ⟨bD,cf⟩;obtain rfl:=Ah HTG.u bD;clear bD;have dL:Hid (Ext wr w6):=Ext.trans ((xZ wr).alloc (cO jC 207)).drew cf;have dP:Hid (au w6 wr.heap.size 207 jC):=((au.new wr 207 jC).ext ((xZ _).drew)).ext cf;have sH:wr.heap.size<=wr.heap.size:=lI _;clear cf;refine ov hK (HK.u _ (dL.u)) fun aEQ=>?_
     refine tq 7 ?_;refine tq 8 ?_;refine tq 9 ?_;obtain ⟨s,hs⟩:=ey (wr.heap.size);rw [<-hs] at dP |-;replace sH:wr.heap.size<=s:=im
     clear hs
     exact IK
   |some Eg=>
    have oH:Hid (uV n (gs.take (k+1))=some Eg):=by
     unfold Hid;rw [Mu HG.u HQ.u];exact ht
    have HM2:Hid (Eg.length=m):=(Iz ht).trans HT.u.2.2.2.2;have HTG:=hY ht;clear ht;obtain ⟨⟨b0,b1⟩,-⟩:=HK.u wr (xZ _);go_upto_region 7 with fail;refine dt (S:=fun w'=>(w'.cell? (aA w.z 0)=some (iI n)/\w'.cell? (aA w.z 1)=some (.slice (some ⟨b,o,none⟩) l c))/\(w'.cell? (aA b (o+k*4))=some (iI g.k)/\w'.cell? (aA b (o+k*4+1))=some (iI g.a)/\w'.cell? (aA b (o+k*4+2))=some (iI g.b)/\w'.cell? (aA b (o+k*4+3))=some (iI g.c))/\(w'.cell? (aA q 0)=some (iI n)/\w'.cell? (aA q 1)=some (.slice A' m c'))) af (HK.u _ (xZ wr).drew) (fun aEQ=>?_);clear b0 b1;refine tq 0 ?_;refine tq 1 ?_;refine tq 2 ?_;refine tq 3 ?_;refine tq 4 ?_;refine tq 5 ?_;refine o2 6 10 (fun K hK=>?_) fun K hK=>?_
    ·go_simp;refine (MB.u _ (xZ wr).drew).mono ?_;rintro e v5 ⟨bD,cf⟩;obtain ⟨A2,c2,rfl,jk,zm⟩:=ko HTG.u HM2.u bD;clear bD;have jN:Hid (Rd v5 v5.heap.size 4 A2 m (aX Eg)):=jk;have Qf:Hid (m<=c2):=zm;clear jk zm;have nh:Hid (Ext wr v5):=Ext.trans (xZ wr).drew cf;clear cf;refine ov hK (HK.u _ (nh.u)) fun aEQ=>?_
     refine tq 7 ?_;refine tq 8 ?_;refine tq 9 ?_;refine o1 10 fun K hK=>?_
     go_simp;have dL:Hid (Ext wr (v5.alloc (cO jC 207))):=nh.u.alloc _;have dP:Hid (au (v5.alloc (cO jC 207)) v5.heap.size 207 jC):=au.new _ _ _;have wH:=hY (jN.u.ext ((xZ _).alloc (cO jC 207)));have sH:wr.heap.size<=v5.heap.size:=nh.u.size;refine ov hK (HK.u _ (dL.u)) fun aEQ=>?_
     clear jN;generalize v5.alloc (cO jC 207)=w6 at*
     generalize v5.heap.size=s at*
     clear nh
     exact IJ
    ·go_simp;refine ov hK (HK.u _ (((xZ wr).alloc _).drew)) fun aEQ=>?_
     refine o1 6 fun K hK=>?_
     go_simp;refine (MB.u _ ((xZ wr).alloc (cO jC 207)).drew).mono ?_;rintro e w6 ⟨bD,cf⟩;obtain ⟨A2,c2,rfl,jk,zm⟩:=ko HTG.u HM2.u bD;clear bD;have jN:Hid (Rd w6 w6.heap.size 4 A2 m (aX Eg)):=jk;have Qf:Hid (m<=c2):=zm;clear jk zm;have dL:Hid (Ext wr w6):=Ext.trans ((xZ wr).alloc (cO jC 207)).drew cf;have dP:Hid (au w6 wr.heap.size 207 jC):=((au.new wr 207 jC).ext ((xZ _).drew)).ext cf;have wH:=jN;have sH:wr.heap.size<=wr.heap.size:=lI _;clear cf;refine ov hK (HK.u _ (dL.u)) fun aEQ=>?_
     refine tq 7 ?_;refine tq 8 ?_;refine tq 9 ?_;clear jN;obtain ⟨s,hs⟩:=ey (wr.heap.size);rw [<-hs] at dP |-;replace sH:wr.heap.size<=s:=im
     clear hs
     exact IJ
  ·have wE:k=l:=aa
   have Zw:Hid (zZ n gs=some rs):=by
    unfold Hid;rw [Ix HV.u,<-HQ.u,wE,<-HL.u,pg]
   clear wE;obtain ⟨⟨c0,c1⟩,-⟩:=bu HT.u.1;obtain ⟨⟨d0,d1⟩,f0,f1⟩:=bu MA.u.2.1;obtain ⟨⟨t0,t1⟩,-⟩:=bu MA.u.1;go_wp2;have wh:Hid (au (eh wr (w.heap.size+1) (iI n) (.slice A' m c')) (w.heap.size+1) 207 #[iI n,.slice A' m c']):=MA.u.2.1.eh _ _;refine bJ (v:=.tuple #[.agg #[iI n,.slice A' m c'],.bool true]) ?_ rfl ?_
   rotate_left
   ·exact ⟨Ef Zw.u rfl (HT.u.u MA.u.2.1 _ _),dK (g:=w.heap.size+1) MA.u.2.2.2 aa _ _⟩
   ·exact aR rfl _ _ _ _ _ _ _ rfl rfl wh.u yv rfl gZ
theorem apr {w:World} {g t:Nat} {a b c:Value} (h:au w g t #[a,b,c]):(w.cell? (aA g 0)=some a/\w.cell? (aA g 1)=some b/\w.cell? (aA g 2)=some c)/\w.frozen? (aA g 0)=false/\w.frozen? (aA g 1)=false/\w.frozen? (aA g 2)=false:=
 ⟨⟨h.cell 0,h.cell 1,h.cell 2⟩,h.frozen 0,h.frozen 1,h.frozen 2⟩
theorem BW:(251:Nat)≠39:=ae
theorem OH:(251:Nat)≠259:=ae
theorem RQ:(259:Nat)≠39:=ae
theorem OI {w:World} {s T T':Nat} {cs cs':Array Value} (h:au w s T cs) (h':au w s T' cs'):T=T':=by
 unfold au at h h';rw [h] at h';injection h' with h';injection h' with _ h'
theorem Fl {w:World} {s T:Nat} {cs:Array Value} {B e size n:Nat} {v:Value} {xs:List Value} (h:au w s T cs) (ho:w.ownsRow B e size v n xs) (hne:T≠e):∀k,v.ownBlock=some k->s≠k:=by
 intro k hk e1;subst e1;rcases ho.2 with ⟨rfl,_⟩|⟨b',jM,abn,rfl,_,uF,_⟩
 ·cases hk
 ·injection hk with hk;subst hk
  exact hne (OI h uF)
structure WK (w0 W:World) (q:Nat) (n:Int) (A:OA) (m c:Nat) (rs:List Pa) (L:OA) (len cap:Nat) (gs:List Gt):Prop where
 b:au W q 259 #[iI n,.slice A m c,.slice L len cap]
 r:Rd W W.heap.size 4 A m (aX rs)
 o:W.ownsRow (q+1) 39 4 (.slice L len cap) len (aq gs)
 p:PB W A
 hm:rs.length=m/\m<=c/\m<=8
 x:Ext w0 W
 q0:w0.heap.size<=q
section
variable {w0 W W':World} {q:Nat} {n:Int} {A A':OA} {m c c':Nat} {rs Eg:List Pa} {L L':OA} {len cap jM:Nat} {gs:List Gt}
theorem WK.ext (h:WK w0 W q n A m c rs L len cap gs) (hx:Ext W W'):WK w0 W' q n A m c rs L len cap gs:=⟨h.b.ext hx,h.r.ext hx,aj h.o hx,h.p.ext hx,h.hm,h.x.trans hx,h.q0⟩
theorem OJ (h:Rd W W.heap.size 4 A m (aX rs)) (hp:PB W A) (hb:au W q 259 #[iI n,.slice A' c c',.slice L len cap]) (i:Nat) (u:Value):Rd (W.setCell (aA q i) u) (W.setCell (aA q i) u).heap.size 4 A m (aX rs)/\PB (W.setCell (aA q i) u) A:=by
 have hne:∀b o,A=some ⟨b,o,none⟩->b≠q:=fun b o e e2=>by
  obtain ⟨cs,h1⟩:=hp b o e;subst e2
  exact OH (OI h1 hb)
 refine ⟨⟨h.1,fun hn=>?_⟩,fun b o e=>?_⟩
 ·obtain ⟨b',o,e,rJ,hc⟩:=h.2 hn;have e1:(W.setCell (aA q i) u).heap[b']?=W.heap[b']?:=pa _ ⟨q,i,none⟩ u b' (hne b' o e)
  exact ⟨b',o,e,sU rJ,fun j u' hu=>(uB (a:=⟨b',o+j,none⟩) e1).trans (hc j u' hu)⟩
 ·obtain ⟨cs,h1⟩:=hp b o e
  exact ⟨cs,h1.cB (p:=(aA q i)) (hne b o e) u⟩
theorem ada {s:Nat} {z0 z1:Value} (h:Rd W W.heap.size 4 A m (aX rs)) (hp:PB W A) (hb:au W s 207 #[z0,z1]) (a b:Value):Rd ((W.setCell (aA s 0) a).setCell (aA s 1) b) ((W.setCell (aA s 0) a).setCell (aA s 1) b).heap.size 4 A m (aX rs)/\PB ((W.setCell (aA s 0) a).setCell (aA s 1) b) A:=by
 refine ⟨?_,fun b' o e=>?_⟩
 ·have:=tI h hb a b;rw [<-mE W s a b] at this
  exact this
 ·obtain ⟨cs,h1⟩:=hp b' o e;have hne:b'≠s:=fun e2=>by
   subst e2
   exact absurd (OI h1 hb) ae
  exact ⟨cs,(h1.cB (p:=(aA s 0)) hne a).cB (p:=(aA s 1)) hne b⟩
theorem WK.set (h:WK w0 W q n A m c rs L len cap gs) (hr:Rd W W.heap.size 4 A' m (aX Eg)) (hp:PB W A') (hl:Eg.length=m) (hc:m<=c'):WK w0 ((W.setCell (aA q 0) (iI n)).setCell (aA q 1) (.slice A' m c')) q n A' m c' Eg L len cap gs:=by
 have h1:=OJ hr hp h.b 0 (iI n);have ky:au (W.setCell (aA q 0) (iI n)) q 259 #[iI n,.slice A m c,.slice L len cap]:=h.b.aU 0 _;have h2:=OJ h1.1 h1.2 ky 1 (.slice A' m c')
 exact ⟨ky.aU 1 _,h2.1,bo (bo h.o (p:=(aA q 0)) (yq q) _) (p:=(aA q 1)) (yq q) _,h2.2,⟨hl,hc,h.hm.2.2⟩,(h.x.setCell (p:=(aA q 0)) h.q0 _).setCell (p:=(aA q 1)) h.q0 _,h.q0⟩
theorem WK.app {y:Gt} (h:WK w0 W q n A m c rs L len cap gs) (ho:W'.ownsRow (q+1) 39 4 (.slice L' (len+1) jM) (len+1) (aq (gs++[y]))) (hg:W.grownBy W' (Value.slice L len cap).ownBlock):au W' q 259 #[iI n,.slice A m c,.slice L len cap]/\WK w0 (W'.setCell (aA q 2) (.slice L' (len+1) jM)) q n A m c rs L' (len+1) jM (gs++[y]):=by
 have hb:=h.b.grown hg (Fl h.b h.o RQ);have hp:PB W' A:=fun b o e=>by
  obtain ⟨cs,h1⟩:=h.p b o e
  exact ⟨cs,h1.grown hg (Fl h1 h.o BW)⟩
 have hr:Rd W' W'.heap.size 4 A m (aX rs):=by
  refine ⟨h.r.1,fun hn=>?_⟩;obtain ⟨b',o,e,rJ,hc⟩:=h.r.2 hn;obtain ⟨cs,h1⟩:=h.p b' o e;have hne:=Fl h1 h.o BW;have e1:=hg.block b' h1.lt (fun e2=>hne b' e2.symm rfl)
  exact ⟨b',o,e,oM hg.size,fun j u hu=>(uB (a:=⟨b',o+j,none⟩) e1).trans (hc j u hu)⟩
 have h2:=OJ hr hp hb 2 (.slice L' (len+1) jM);refine ⟨hb,hb.aU 2 _,h2.1,bo ho (p:=(aA q 2)) (yq q) _,h2.2,h.hm,?_,h.q0⟩
 exact (h.x.grown hg (fun k hk=>oN ((h.o.lt k hk).1) h.q0)).setCell (p:=(aA q 2)) h.q0 _
end
def WkE (w0:World) (q:Nat) (n:Int) (m bE:Nat) (e:Ending) (W:World):Prop:=e=.returned (.tuple #[])/\∃A c rs L len cap gs,WK w0 W q n A m c rs L len cap gs/\len<=bE
theorem IL {P:Prop} (h:P:=by
 refine o1 10 fun K hK=>?_
 obtain ⟨⟨q0,q1⟩,f0,f1⟩:=bu dP.u;go_simp;have fz:Hid (Ext W1 ((w6.setCell (aA s 0) (iI n)).setCell (aA s 1) (.slice A2 m c2))):=(dL.u.setCell (p:=(aA s 0)) sH _).setCell (p:=(aA s 1)) sH _;have nZ:Hid (au ((w6.setCell (aA s 0) (iI n)).setCell (aA s 1) (.slice A2 m c2)) s 207 #[iI n,.slice A2 m c2]):=(dP.u.aU 0 _).aU 1 _;have vh:Hid (Rd ((w6.setCell (aA s 0) (iI n)).setCell (aA s 1) (.slice A2 m c2)) ((w6.setCell (aA s 0) (iI n)).setCell (aA s 1) (.slice A2 m c2)).heap.size 4 A2 m (aX Eg)/\PB ((w6.setCell (aA s 0) (iI n)).setCell (aA s 1) (.slice A2 m c2)) A2):=ada wH.u.1 wH.u.2 dP.u _ _;refine ov hK (HK.u _ fz.u) fun aEQ=>?_
 refine tq 11 ?_;refine dn ?_;clear q0 q1 f0 f1 aEQ;generalize (w6.setCell (aA s 0) (iI n)).setCell (aA s 1) (.slice A2 m c2)=w7 at*
 clear dL dP sH;have HW7:=hY (Qj.u.ext fz.u);obtain ⟨⟨p0,p1,p2⟩,g0',g1',g2'⟩:=apr HW7.u.b;obtain ⟨⟨q0,q1⟩,-⟩:=bu nZ.u;go_upto_region 4 with fail;have HW8:=hY (HW7.u.set vh.u.1 vh.u.2 adb zm);have HG8:Hid (au ((w7.setCell (aA q 0) (iI n)).setCell (aA q 1) (.slice A2 m c2)) g0 39 (gA g)):=((HGB.u.ext fz.u).cB (p:=(aA q 0)) hgq _).cB (p:=(aA q 1)) hgq _;clear p0 p1 p2 g0' g1' g2' q0 q1 HW7 nZ vh;generalize (w7.setCell (aA q 0) (iI n)).setCell (aA q 1) (.slice A2 m c2)=w8 at*
 obtain ⟨⟨p0,p1,p2⟩,g0',g1',g2'⟩:=apr HW8.u.b;obtain ⟨⟨x0,x1,x2,x3⟩,-⟩:=aB HG8.u;have hq8:=HW8.u.b.lt;have hg8:=HG8.u.lt;go_wp2
 go_region_law (first
  |(refine GS (B:=q+1) ah _ _ ah _ len gs ah (HW8.u.ext (xZ w8).drew).o (by have:=hq8;show q+1<=w8.heap.size;omega) g _ _ ah ah aa ?_;intro A9 c9 w9 kM hg9 _;have HA:=hY (WK.app (HW8.u.ext (xZ w8).drew) kM hg9);have k4:w9.cell? (aA q 2)=some (.slice L len cap):=HA.u.1.cell 2;have g4:w9.frozen? (aA q 2)=false:=HA.u.1.frozen 2))
 all_goals
  clear k4 g4;go_wp2
  exact FU (v:=.tuple #[]) af rfl ⟨rfl,_,_,_,_,_,_,_,HA.u.2,aa⟩):P:=h
theorem IP {P:Prop} (h:P:=by
 refine o1 10 fun K hK=>?_
 obtain ⟨⟨q0,q1⟩,f0,f1⟩:=bu dP.u;go_simp;have fz:Hid (Ext W1 ((w6.setCell (aA s 0) (iI 0)).setCell (aA s 1) (nS))):=(dL.u.setCell (p:=(aA s 0)) sH _).setCell (p:=(aA s 1)) sH _;have nZ:Hid (au ((w6.setCell (aA s 0) (iI 0)).setCell (aA s 1) (nS)) s 207 jC):=(dP.u.aU 0 _).aU 1 _;refine ov hK (HK.u _ fz.u) fun aEQ=>?_
 refine tq 11 ?_;refine dn ?_;clear q0 q1 f0 f1 aEQ;generalize (w6.setCell (aA s 0) (iI 0)).setCell (aA s 1) (nS)=w7 at*
 clear dL dP sH;go_wp2
 exact FU (v:=.tuple #[]) af rfl ⟨rfl,A,c,rs,L,len,cap,gs,Qj.u.ext fz.u,aa⟩):P:=h
theorem Zy (w0 W:World) (q:Nat) (n:Int) (A:OA) (m c:Nat) (rs:List Pa) (L:OA) (len cap:Nat) (gs:List Gt) (g:Gt) (h:WK w0 W q n A m c rs L len cap gs) (hlen:len<=1000000):
  Calls prog 221 #[.pointer (some ⟨q,0,none⟩),g.val] W (WkE w0 q n m (len+1)):=by
 have HC:Hid (∀w',Ext W w'->Calls prog 189 #[.agg #[iI n,.slice A m c],g.val] w' fun e w''=>Fk n (fL n rs g) e w''/\Ext w' w''):=fun w' hx=>by
  have hr:=h.r.ext hx;obtain ⟨e1,e2,e3⟩:=h.hm;rw [<-e1] at hr |-
  exact gK A c n rs g w' hr aa aa
 obtain ⟨t,ht⟩:=ey (fL n rs g);have HTL:Hid (∀Eg,t=some Eg->Eg.length=m):=fun Eg e=>by rw [Iz (ht ▸ e)];exact h.hm.1
 rw [<-ht] at HC;clear ht;have Qj:Hid (WK w0 (W.alloc (cO (gA g) 39)) q n A m c rs L len cap gs):=h.ext ((xZ W).alloc _);have HGB:Hid (au (W.alloc (cO (gA g) 39)) W.heap.size 39 (gA g)):=au.new _ _ _;have cH:Hid (Ext W (W.alloc (cO (gA g) 39))):=(xZ W).alloc _;have hgq:W.heap.size≠q:=oM h.b.lt
 clear h;go_enter func221,ntmps221;go_upto_region 1 with fail;generalize W.alloc (cO (gA g) 39)=W1 at*
 generalize W.heap.size=g0 at*
 have HK:Hid (∀w',Ext W1 w'->(w'.cell? (aA q 0)=some (iI n)/\w'.cell? (aA q 1)=some (.slice A m c))/\(w'.cell? (aA g0 0)=some (iI g.k)/\w'.cell? (aA g0 1)=some (iI g.a)/\w'.cell? (aA g0 2)=some (iI g.b)/\w'.cell? (aA g0 3)=some (iI g.c))):=fun w' hx=>⟨⟨(Qj.u.ext hx).b.cell 0,(Qj.u.ext hx).b.cell 1⟩,(aB (HGB.u.ext hx)).1⟩
 obtain ⟨⟨p0,p1⟩,x0,x1,x2,x3⟩:=HK.u W1 (xZ _);go_wp2;refine dt (S:=fun w'=>(w'.cell? (aA q 0)=some (iI n)/\w'.cell? (aA q 1)=some (.slice A m c))/\(w'.cell? (aA g0 0)=some (iI g.k)/\w'.cell? (aA g0 1)=some (iI g.a)/\w'.cell? (aA g0 2)=some (iI g.b)/\w'.cell? (aA g0 3)=some (iI g.c))) af (HK.u _ (xZ W1).drew) (fun aEQ=>?_);clear p0 p1 x0 x1 x2 x3;refine tq 0 ?_;refine tq 1 ?_;refine tq 2 ?_;refine tq 3 ?_;refine tq 4 ?_
 cases t with
 |none=>
  refine o2 5 9 (fun K hK=>?_) fun K hK=>?_
  ·go_simp;refine (HC.u _ (cH.u.trans (xZ W1).drew)).mono ?_;rintro e v5 ⟨rfl,cf⟩;have nh:Hid (Ext W1 v5):=Ext.trans (xZ W1).drew cf;clear cf;refine ov hK (HK.u _ nh.u) fun aEQ=>?_
   refine tq 6 ?_;refine tq 7 ?_;refine tq 8 ?_;refine o1 9 fun K hK=>?_
   go_simp;have dL:Hid (Ext W1 (v5.alloc (cO jC 207))):=nh.u.alloc _;have dP:Hid (au (v5.alloc (cO jC 207)) v5.heap.size 207 jC):=au.new _ _ _;have sH:W1.heap.size<=v5.heap.size:=nh.u.size;refine ov hK (HK.u _ dL.u) fun aEQ=>?_
   generalize v5.alloc (cO jC 207)=w6 at*
   generalize v5.heap.size=s at*
   clear nh
   exact IP
  ·go_simp;refine ov hK (HK.u _ ((xZ W1).alloc _).drew) fun aEQ=>?_
   refine o1 5 fun K hK=>?_
   go_simp;refine (HC.u _ (cH.u.trans ((xZ W1).alloc _).drew)).mono ?_;rintro e w6 ⟨rfl,cf⟩;have dL:Hid (Ext W1 w6):=Ext.trans ((xZ W1).alloc (cO jC 207)).drew cf;have dP:Hid (au w6 W1.heap.size 207 jC):=((au.new W1 207 jC).ext ((xZ _).drew)).ext cf;have sH:W1.heap.size<=W1.heap.size:=lI _;clear cf;refine ov hK (HK.u _ dL.u) fun aEQ=>?_
   refine tq 6 ?_;refine tq 7 ?_;refine tq 8 ?_;obtain ⟨s,hs⟩:=ey (W1.heap.size);rw [<-hs] at dP |-;replace sH:W1.heap.size<=s:=im
   clear hs
   exact IP
 |some Eg=>
  have adb:Eg.length=m:=HTL.u Eg rfl;refine o2 5 9 (fun K hK=>?_) fun K hK=>?_
  ·go_simp;refine (HC.u _ (cH.u.trans (xZ W1).drew)).mono ?_;rintro e v5 ⟨⟨v,rfl,A2,c2,rfl,jk,zm,Ls⟩,cf⟩;rw [adb] at zm |-;have nh:Hid (Ext W1 v5):=Ext.trans (xZ W1).drew cf;clear cf;have Ik:Hid (Rd v5 v5.heap.size 4 A2 m (aX Eg)/\PB v5 A2):=⟨by rw [<-adb];exact jk,Ls⟩;clear jk Ls;refine ov hK (HK.u _ nh.u) fun aEQ=>?_
   refine tq 6 ?_;refine tq 7 ?_;refine tq 8 ?_;refine o1 9 fun K hK=>?_
   go_simp;have dL:Hid (Ext W1 (v5.alloc (cO jC 207))):=nh.u.alloc _;have dP:Hid (au (v5.alloc (cO jC 207)) v5.heap.size 207 jC):=au.new _ _ _;have sH:W1.heap.size<=v5.heap.size:=nh.u.size;have wH:Hid (Rd (v5.alloc (cO jC 207)) (v5.alloc (cO jC 207)).heap.size 4 A2 m (aX Eg)/\PB (v5.alloc (cO jC 207)) A2):=⟨Ik.u.1.ext ((xZ v5).alloc _),Ik.u.2.ext ((xZ v5).alloc _)⟩;refine ov hK (HK.u _ dL.u) fun aEQ=>?_
   generalize v5.alloc (cO jC 207)=w6 at*
   generalize v5.heap.size=s at*
   clear nh
   exact IL
  ·go_simp;refine ov hK (HK.u _ ((xZ W1).alloc _).drew) fun aEQ=>?_
   refine o1 5 fun K hK=>?_
   go_simp;refine (HC.u _ (cH.u.trans ((xZ W1).alloc _).drew)).mono ?_;rintro e w6 ⟨⟨v,rfl,A2,c2,rfl,jk,zm,Ls⟩,cf⟩;rw [adb] at zm |-;have dL:Hid (Ext W1 w6):=Ext.trans ((xZ W1).alloc (cO jC 207)).drew cf;have dP:Hid (au w6 W1.heap.size 207 jC):=((au.new W1 207 jC).ext ((xZ _).drew)).ext cf;have sH:W1.heap.size<=W1.heap.size:=lI _;clear cf;have wH:Hid (Rd w6 w6.heap.size 4 A2 m (aX Eg)/\PB w6 A2):=⟨by rw [<-adb];exact jk,Ls⟩;clear jk Ls;refine ov hK (HK.u _ dL.u) fun aEQ=>?_
   refine tq 6 ?_;refine tq 7 ?_;refine tq 8 ?_;obtain ⟨s,hs⟩:=ey (W1.heap.size);rw [<-hs] at dP |-;replace sH:W1.heap.size<=s:=im
   clear hs
   exact IL
theorem qb (p:Pa) (k:Nat) (hk:k<4) (w:World):Calls prog 219 #[p.val,iI k] w fun e w'=>(∃b,e=.returned (.bool b))/\Ext w w':=by
 have lu:(0:Int)<=(k:Int):=aa
 have auD:IntKind.u64.wrap (k:Int)=(k:Int):=by rcases (show k=0\/k=1\/k=2\/k=3 by omega) with rfl|rfl|rfl|rfl<;>rfl
 go_enter func219,ntmps219;go_wp2;go_ret
 exact ⟨⟨_,rfl⟩,aw⟩
theorem wO (p:Pa) (k:Nat) (hk:k<4) (w:World):Calls prog 220 #[p.val,iI k] w fun e w'=>(∃b,e=.returned (.bool b))/\Ext w w':=by
 have lu:(0:Int)<=(k:Int):=aa
 have auD:IntKind.u64.wrap (k:Int)=(k:Int):=by rcases (show k=0\/k=1\/k=2\/k=3 by omega) with rfl|rfl|rfl|rfl<;>rfl
 go_enter func220,ntmps220;go_wp2;go_ret
 exact ⟨⟨_,rfl⟩,aw⟩
end Go.Proofs.YtodhjgngkkcjgaaGreatDoor
