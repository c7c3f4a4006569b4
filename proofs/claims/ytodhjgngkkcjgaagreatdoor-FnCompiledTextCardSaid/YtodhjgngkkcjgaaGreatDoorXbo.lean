import Derived.Test.YtodhjgngkkcjgaaGreatDoorXbm
namespace Go.Proofs.YtodhjgngkkcjgaaGreatDoor
open Go.ChangeShapes Go.WideShapes Go.ChangeAt Go.RowKit Go.Deep Go.Proofs.Tryz
set_option linter.unusedVariables false
set_option linter.unusedSimpArgs false
set_option maxRecDepth 100000
set_option maxHeartbeats 16000000
theorem KJ {P:Prop} (h:P:=by
 obtain ⟨⟨a0,a1,a2,a3,a4⟩,z0,z1,z2,z3,z4⟩:=qt dv.u;go_wp2
 exact bJ (v:=.tuple #[.agg jG,.bool false]) (aR rfl _ _ _ _ _ _ _ rfl rfl (dv.u.nM (iI 0) (iI 0) (nS) (nS) (nS)) vQ rfl mJ) rfl ⟨qp rfl HN.u,nN (cH.u) (lI _) _ _ _ _ _⟩):P:=h
theorem uv (s:ByteArray) (hs:s.size<=1048576) (w:World):Calls prog 12 #[.string s] w fun e w'=>FE s w.heap.size e w'/\Ext w w':=by
 go_enter func12,ntmps12;go_wp2_with fail;refine (fq s 10 10 rfl _ aa).mono ?_;rintro e w1 ⟨v1,rfl,eu,aK⟩;have Bl:=tj 10 s;have EN:=oK 10 s;obtain ⟨A1,c1,rfl,kG⟩:=ak eu;obtain ⟨b,o,rfl,hb,VG⟩:=sS kG Bl;have dv:Hid (au w1 w.heap.size 27 jG):=(au.new w _ _).ext aK;have cH:Hid (Ext w w1):=Ext.trans ((xZ w).alloc _) aK;have HL:=hY dv.u.lt;have HY:Hid (∀w',Ext w1 w'->∀i,i<(cut 10 s).length->w'.cell? (aA b (o+i))=some (.string ((cut 10 s).getD i ⟨#[]⟩))):=fun w' q i hi=>(q.cell (p:=(aA b (o+i))) hb).trans (VG i hi).2
 have HZ:Hid (∀i,((cut 10 s).getD i ⟨#[]⟩).size<=1048576):=fun i=>iB (fun y hy=>oM (kS hy)) i
 obtain ⟨m,hm⟩:=ex ((cut 10 s).length);rw [hm] at HY Bl EN |-;have HM:=hY hm;clear hm VG kG eu aK hb
 by_cases qe:m<3
 ·have afc:(m:Int)<3:=aa
  have HN:=hY (rU HM.u (.inl qe));clear qe
  exact KJ
 have afc:¬((m:Int)<3):=aa
 by_cases hhi:1203<m
 ·have arB:(1203:Int)<(m:Int):=aa
  have HN:=hY (rU HM.u (.inr hhi));clear hhi qe
  exact KJ
 have arB:¬((1203:Int)<(m:Int)):=aa
 go_wp2;obtain ⟨z,hz⟩:∃z,m=z+1:=⟨m - 1,aa⟩;subst hz;have kz:2<=z:=aa
 have hz3:z<=1202:=aa
 have hwz:wrap64 (z:Int)=(z:Int):=bk
 obtain ⟨y0,mg⟩:=ex ((cut 10 s).getD 0 ⟨#[]⟩);obtain ⟨yz,Qa⟩:=ex ((cut 10 s).getD z ⟨#[]⟩);have HY0:=hY mg;have HYZ:=hY Qa;have Q0:Hid (y0.size<=1500000):=by unfold Hid;rw [<-mg];exact lK (HZ.u _) ae
 have QZ:Hid (yz.size<=1500000):=by unfold Hid;rw [<-Qa];exact lK (HZ.u _) ae
 have HS:Hid (∀w',Ext w1 w'->w'.cell? (aA b o)=some (.string y0)/\w'.cell? (aA b (o+z))=some (.string yz)):=fun w' q=>⟨by rw [<-mg];have:=HY.u w' q 0 Bl;rwa [oh] at this,yx⟩
 clear arB afc qe hhi mg Qa EN Bl;refine dt (S:=(fun w'=>w'.cell? (aA b o)=some (.string y0)/\w'.cell? (aA b (o+z))=some (.string yz))) af (HS.u _ (xZ w1).drew) (fun aEQ=>?_);refine tq 0 ?_;refine tq 4 ?_;refine tq 5 ?_;refine tq 1 ?_
 (refine jz (i:=6) (v:=iI (z:Int)) rfl af af af (fun _ _ _ h=>h) (Or.inl ⟨ah,?_⟩) aL ?_;· (intro w hSw;(try dsimp only at hSw);obtain ⟨s0,s7⟩:=hSw;go_simp;first|done|exact lH _ aa))
 (try refine pt ?_)
 (refine jz (i:=7) (v:=.pointer (some ⟨b,o+z,none⟩)) rfl af af af (fun _ _ _ h=>h) (Or.inl ⟨ah,?_⟩) aL ?_;· (intro w hSw;(try dsimp only at hSw);obtain ⟨s0,s7⟩:=hSw;go_simp;first|done|(intro h;omega)))
 (try refine pt ?_)
 (refine jz (i:=2) (v:=.string y0) rfl af af af (fun _ _ _ h=>h) (Or.inl ⟨ah,?_⟩) aL ?_;· (intro w hSw;(try dsimp only at hSw);obtain ⟨s0,s7⟩:=hSw;go_simp;first|done|rfl))
 (try refine pt ?_)
 (refine jz (i:=8) (v:=.string yz) rfl af af af (fun _ _ _ h=>h) (Or.inl ⟨ah,?_⟩) aL ?_;· (intro w hSw;(try dsimp only at hSw);obtain ⟨s0,s7⟩:=hSw;go_simp;first|done|rfl))
 (try refine pt ?_)
 refine o2 3 11 (fun K hK=>?pC) fun K hK=>?pA
 case' pA=>
  go_simp;have BG:Hid (au (w1.alloc (cO jG 27)).drew w1.heap.size 27 jG):=au.new w1 _ _;have EG:Hid (Ext w1 (w1.alloc (cO jG 27)).drew):=((xZ w1).alloc _).drew;have SG:Hid ((w1.alloc (cO jG 27)).drew.heap.size=w1.heap.size+1):=yC
  have SL:Hid (w1.heap.size<=w1.heap.size):=lI _;refine hK.out _ _ (HS.u _ (EG.u)) (fun aEQ=>?_);clear hK K aEQ;have aEQ:=HS.u _ (EG.u)
  (try refine pt ?_)
  generalize (w1.alloc (cO jG 27)).drew=WG at*
  obtain ⟨g,Ql⟩:=ex (w1.heap.size);rw [Ql] at BG SG;have HGG:=hY Ql;replace SL:Hid (w1.heap.size<=g):=CK Ql;rw [Ql];clear Ql;refine o1 3 fun K hK=>?_
  go_simp;refine (gM y0 Q0.u _).mono ?_;rintro e wa ⟨⟨v3,st,rfl,ie,eO⟩,bO⟩;obtain ⟨A2,c2,rfl,-⟩:=ak ie;obtain ⟨n2,Hj⟩:=ex (st.length);have TV:=hY Hj;rw [Hj] at ie |-;have mf:=hY ie;have DN:=hY eO;have fD:=hY bO;clear Hj ie eO bO;refine hK.out _ _ (HS.u _ (EG.u.trans fD.u)) (fun aEQ=>?_);clear hK K aEQ;have aEQ:=HS.u _ (EG.u.trans fD.u)
  (try refine pt ?_)
  refine o1 9 fun K hK=>?_
  go_simp;refine (gM yz QZ.u _).mono ?_;rintro e wb ⟨⟨v9,fin,rfl,kM,Tb⟩,nj⟩;obtain ⟨A3,c3,rfl,-⟩:=ak kM;obtain ⟨n3,KF⟩:=ex (fin.length);have HN9:=hY KF;rw [KF] at kM |-;have iD:=hY kM;have HQ9:=hY Tb;have fP:=hY nj;clear KF kM Tb nj;refine hK.out _ _ (HS.u _ ((EG.u.trans fD.u).trans fP.u)) (fun aEQ=>?_);clear hK K aEQ;have aEQ:=HS.u _ ((EG.u.trans fD.u).trans fP.u)
  (try refine pt ?_)
  have BZ:Hid (au wb g 27 jG):=BG.u.ext (fD.u.trans fP.u);obtain ⟨b0,eT⟩:=ey (WG.heap.size);obtain ⟨b1,ky⟩:=ey (wa.heap.size);obtain ⟨B,YZ⟩:=ey (wb.heap.size);have hsa:=fD.u.size;have ZN:=fP.u.size;have hsg:=SG.u;have JV:=SL.u;have R2:wb.ownsRow b0 3 1 (.slice A2 n2 c2) st.length (aD st):=by rw [eT,TV.u];exact aj mf.u fP.u
  have R3:wb.ownsRow b1 3 1 (.slice A3 n3 c3) fin.length (aD fin):=mK
  have L2:∀k,(Value.slice A2 n2 c2).ownBlock=some k->k<b1/\k≠g:=fun k hk=>oM (mf.u.lt k hk)
  have L3:∀k,(Value.slice A3 n3 c3).ownBlock=some k->k<B/\k≠g:=fun k hk=>oM (iD.u.lt k hk)
  have S1:w1.heap.size<=g/\w1.heap.size<=b0:=⟨aa,aa⟩;have Z1:b0<=b1/\b1<=B/\g<B/\B<=wb.heap.size:=⟨aa,aa,aa,aa⟩;clear eT ky YZ hsa ZN hsg JV;refine tq 10 ?_;refine o1 12 fun K hK=>?_
  obtain ⟨⟨i0,i1,i2,i3,i4⟩,j0,j1,j2,j3,j4⟩:=qt BZ.u;have D0:=hY (DQ.start BZ.u R2 L2 R3 L3 ((EG.u.trans fD.u).trans fP.u) S1 Z1);go_simp;refine hK.out _ _ (HS.u _ D0.u.x) (fun aEQ=>?_);clear hK K aEQ i0 i1 i2 i3 i4 j0 j1 j2 j3 j4
  (try refine pt ?_)
  refine dn ?_;unfold nM at D0;generalize ((((wb.setCell (aA g 0) (iI 0)).setCell (aA g 1) (iI 0)).setCell (aA g 2) (nS)).setCell (aA g 3) (.slice A2 n2 c2)).setCell (aA g 4) (.slice A3 n3 c3)=WR at*
  clear BZ;clear BG EG SG SL mf iD fD fP R2 R3 L2 L3
 case' pC=>
  go_simp;refine (gM y0 Q0.u _).mono ?_;rintro e wa ⟨⟨v3,st,rfl,ie,eO⟩,bO⟩;obtain ⟨A2,c2,rfl,-⟩:=ak ie;obtain ⟨n2,Hj⟩:=ex (st.length);have TV:=hY Hj;rw [Hj] at ie |-;have mf:=hY ie;have DN:=hY eO;have fD:=hY bO;clear Hj ie eO bO;have EA:=hY (Ext.trans (xZ w1).drew fD.u);refine hK.out _ _ (HS.u _ (EA.u)) (fun aEQ=>?_);clear hK K aEQ;have aEQ:=HS.u _ (EA.u)
  (try refine pt ?_)
  refine o2 9 11 (fun K hK=>?pC2) fun K hK=>?pA2
 case' pA2=>
  go_simp;have BG:Hid (au (wa.alloc (cO jG 27)) wa.heap.size 27 jG):=au.new _ _ _;have EG:Hid (Ext w1 (wa.alloc (cO jG 27))):=Ext.alloc (EA.u) _;have SG:Hid ((wa.alloc (cO jG 27)).heap.size=wa.heap.size+1):=mL
  have SL:=hY ((EA.u).size);refine hK.out _ _ (HS.u _ (EG.u)) (fun aEQ=>?_);clear hK K aEQ;have aEQ:=HS.u _ (EG.u)
  (try refine pt ?_)
  have SLA:Hid (wa.heap.size<=wa.heap.size):=lI _;have EWG:Hid (Ext wa (wa.alloc (cO jG 27))):=(xZ _).alloc _;have KG:Hid (∀k,(Value.slice A2 n2 c2).ownBlock=some k->k<wa.heap.size):=fun k hk=>(mf.u.lt k hk).2
  generalize wa.alloc (cO jG 27)=WG at*
  generalize wa.heap.size=g at*
  refine o1 9 fun K hK=>?_
  go_simp;refine (gM yz QZ.u _).mono ?_;rintro e wb ⟨⟨v9,fin,rfl,kM,Tb⟩,nj⟩;obtain ⟨A3,c3,rfl,-⟩:=ak kM;obtain ⟨n3,KF⟩:=ex (fin.length);have HN9:=hY KF;rw [KF] at kM |-;have iD:=hY kM;have HQ9:=hY Tb;have fP:=hY nj;clear KF kM Tb nj;refine hK.out _ _ (HS.u _ (EG.u.trans fP.u)) (fun aEQ=>?_);clear hK K aEQ;have aEQ:=HS.u _ (EG.u.trans fP.u)
  (try refine pt ?_)
  have BZ:Hid (au wb g 27 jG):=BG.u.ext fP.u;obtain ⟨b0,eT⟩:=ey (w1.drew.heap.size);obtain ⟨b1,ky⟩:=ey (WG.heap.size);obtain ⟨B,YZ⟩:=ey (wb.heap.size);have ZN:=fP.u.size;have hsg:=SG.u;have JV:=SL.u;have hd:w1.drew.heap.size=w1.heap.size:=rfl;have R2:wb.ownsRow b0 3 1 (.slice A2 n2 c2) st.length (aD st):=yD
  have R3:wb.ownsRow b1 3 1 (.slice A3 n3 c3) fin.length (aD fin):=mK
  have L2:∀k,(Value.slice A2 n2 c2).ownBlock=some k->k<b1/\k≠g:=fun k hk=>oM (KG.u k hk)
  have L3:∀k,(Value.slice A3 n3 c3).ownBlock=some k->k<B/\k≠g:=fun k hk=>oM (iD.u.lt k hk)
  have S1:w1.heap.size<=g/\w1.heap.size<=b0:=⟨aa,aa⟩;have Z1:b0<=b1/\b1<=B/\g<B/\B<=wb.heap.size:=⟨aa,aa,aa,aa⟩;clear eT ky YZ ZN hsg JV hd;refine tq 10 ?_;refine o1 12 fun K hK=>?_
  obtain ⟨⟨i0,i1,i2,i3,i4⟩,j0,j1,j2,j3,j4⟩:=qt BZ.u;have D0:=hY (DQ.start BZ.u R2 L2 R3 L3 (EG.u.trans fP.u) S1 Z1);go_simp;refine hK.out _ _ (HS.u _ D0.u.x) (fun aEQ=>?_);clear hK K aEQ i0 i1 i2 i3 i4 j0 j1 j2 j3 j4
  (try refine pt ?_)
  refine dn ?_;unfold nM at D0;generalize ((((wb.setCell (aA g 0) (iI 0)).setCell (aA g 1) (iI 0)).setCell (aA g 2) (nS)).setCell (aA g 3) (.slice A2 n2 c2)).setCell (aA g 4) (.slice A3 n3 c3)=WR at*
  clear BZ;clear BG EG SG SL mf iD fD fP R2 R3 L2 L3 KG EWG EA SLA
 case' pC2=>
  go_simp;refine (gM yz QZ.u _).mono ?_;rintro e wb ⟨⟨v9,fin,rfl,kM,Tb⟩,nj⟩;obtain ⟨A3,c3,rfl,-⟩:=ak kM;obtain ⟨n3,KF⟩:=ex (fin.length);have HN9:=hY KF;rw [KF] at kM |-;have iD:=hY kM;have HQ9:=hY Tb;have fP:=hY nj;clear KF kM Tb nj;have EB:=hY (EA.u.trans fP.u);refine hK.out _ _ (HS.u _ (EB.u)) (fun aEQ=>?_);clear hK K aEQ;have aEQ:=HS.u _ (EB.u)
  (try refine pt ?_)
  refine tq 10 ?_;refine o1 11 fun K hK=>?_
  go_simp;have BG:Hid (au (wb.alloc (cO jG 27)) wb.heap.size 27 jG):=au.new _ _ _;have EG:Hid (Ext w1 (wb.alloc (cO jG 27))):=Ext.alloc (EB.u) _;have SG:Hid ((wb.alloc (cO jG 27)).heap.size=wb.heap.size+1):=mL
  have SL:=hY ((EB.u).size);refine hK.out _ _ (HS.u _ (EG.u)) (fun aEQ=>?_);clear hK K aEQ;have aEQ:=HS.u _ (EG.u)
  (try refine pt ?_)
  have EWG:Hid (Ext wb (wb.alloc (cO jG 27))):=(xZ _).alloc _;have afd:Hid (∀k,(Value.slice A3 n3 c3).ownBlock=some k->k<wb.heap.size):=fun k hk=>(iD.u.lt k hk).2
  have KG:Hid (∀k,(Value.slice A2 n2 c2).ownBlock=some k->k<wa.heap.size):=fun k hk=>(mf.u.lt k hk).2
  have WAB:=hY fP.u.size;generalize wb.alloc (cO jG 27)=WG at*
  generalize wb.heap.size=g at*
  have BZ:Hid (au WG g 27 jG):=BG.u;obtain ⟨b0,eT⟩:=ey (w1.drew.heap.size);obtain ⟨b1,ky⟩:=ey (wa.heap.size);obtain ⟨B,YZ⟩:=ey (WG.heap.size);have hsg:=SG.u;have JV:=SL.u;have Ec:=WAB.u;have US:=EA.u.size;have hd:w1.drew.heap.size=w1.heap.size:=rfl;have R2:WG.ownsRow b0 3 1 (.slice A2 n2 c2) st.length (aD st):=yE
  have R3:WG.ownsRow b1 3 1 (.slice A3 n3 c3) fin.length (aD fin):=by rw [ky,HN9.u];exact aj iD.u EWG.u
  have L2:∀k,(Value.slice A2 n2 c2).ownBlock=some k->k<b1/\k≠g:=fun k hk=>oM (KG.u k hk)
  have L3:∀k,(Value.slice A3 n3 c3).ownBlock=some k->k<B/\k≠g:=fun k hk=>oM (afd.u k hk)
  have S1:w1.heap.size<=g/\w1.heap.size<=b0:=⟨aa,aa⟩;have Z1:b0<=b1/\b1<=B/\g<B/\B<=WG.heap.size:=⟨aa,aa,aa,aa⟩;clear eT ky YZ Ec US hsg JV hd;refine o1 12 fun K hK=>?_
  obtain ⟨⟨i0,i1,i2,i3,i4⟩,j0,j1,j2,j3,j4⟩:=qt BZ.u;have D0:=hY (DQ.start BZ.u R2 L2 R3 L3 EG.u S1 Z1);go_simp;refine hK.out _ _ (HS.u _ D0.u.x) (fun aEQ=>?_);clear hK K aEQ i0 i1 i2 i3 i4 j0 j1 j2 j3 j4
  (try refine pt ?_)
  refine dn ?_;unfold nM at D0;generalize ((((WG.setCell (aA g 0) (iI 0)).setCell (aA g 1) (iI 0)).setCell (aA g 2) (nS)).setCell (aA g 3) (.slice A2 n2 c2)).setCell (aA g 4) (.slice A3 n3 c3)=WR at*
  clear BZ;clear BG EG SG SL mf iD fD fP R2 R3 L2 L3 KG afd EWG EA EB WAB
 all_goals
  iterate 9 (try clear aEQ)
  clear S1 Z1 hwz;have d3:=D0.u.b.ck 3;have c0:=D0.u.b.ck 0;have f0:=D0.u.b.frozen 0;have awC:n2<=5:=by rw [<-TV.u];exact DN.u.1
  go_upto_region 7 with fail;clear c0 f0 d3;have D1:Hid (DQ w1 (WR.setCell (aA g 0) (iI (n2:Int))) g b0 b1 B (n2:Int) 0 none 0 0 (.slice A2 n2 c2) st (.slice A3 n3 c3) fin []):=D0.u.abW _;clear D0;generalize WR.setCell (aA g 0) (iI (n2:Int))=W1 at*
  obtain ⟨y1,dw⟩:=ex ((cut 10 s).getD 1 ⟨#[]⟩);have HY1:=hY dw;have Q1:Hid (y1.size<=1500000):=yF
  have r1:W1.cell? (aA b (o+1))=some (.string y1):=yG
  clear dw;go_wp2_with fail;refine (fq y1 32 32 rfl _ (lK Q1.u ae)).mono ?_;rintro e w5 ⟨v5,rfl,kg,cI⟩;have hn5:=tj 32 y1;have UE:=oK 32 y1;obtain ⟨A5,c5,rfl,DX⟩:=ak kg;obtain ⟨b5,o5,rfl,NZ,amR⟩:=sS DX hn5;have D2:=hY (D1.u.ext cI);obtain ⟨j,hj⟩:∃j,(cut 32 y1).length=j+1:=⟨(cut 32 y1).length - 1,aa⟩;rw [hj] at amR UE |-;have HJ:=hY hj;obtain ⟨h1,hh1⟩:=ex ((cut 32 y1).getD j ⟨#[]⟩);have HH1:=hY hh1;have Z1':Hid (h1.size<=2000000):=by unfold Hid;rw [<-hh1];exact iB (fun y hy=>oN (kS hy) Q1.u) j
  have q0:w5.cell? (aA b5 (o5+j))=some (.string h1):=by rw [<-hh1];exact (amR j aa).2
  have hjz:(j:Int)<=3000000:=oM Q1.u
  have KZ:(0:Int)<=(j:Int):=aa
  have hwj:wrap64 (j:Int)=(j:Int):=bk
  clear hj hh1 amR DX kg cI NZ hn5 UE D1 r1;go_wp2_with fail;refine (bB h1 Z1'.u _).mono ?_;rintro e w6 ⟨⟨bits,okb,rfl,hpb⟩,oy⟩;have HPB:=hY hpb;have D3:=hY (D2.u.ext oy);clear hpb oy q0 D2 hwj;have HBT:Hid (∀q:Int,0<=q->q<=4->(cut 10 s).getD 1 ⟨#[]⟩=ew ⟨#[98,105,116,115]⟩ [q]->bits=q):=by
   intro q q0 q4 he;rw [HY1.u] at he;have hc:=PH (f:=⟨#[98,105,116,115]⟩) (p:=[q]) ae (fun x hx=>yH);rw [<-he] at hc;have e2:j=1:=by have:=HJ.u;rw [hc] at this;simp at this;omega
   have e3:=HH1.u;rw [hc,e2] at e3
   exact (HPB.u.2.2 q q0 q4 e3.symm).1
  have c0:=D3.u.b.ck 1;have f0:=D3.u.b.frozen 1;go_upto_region 9 with fail;clear c0 f0;have D4:Hid (DQ w1 (w6.setCell (aA g 1) (iI bits)) g b0 b1 B (n2:Int) bits none 0 0 (.slice A2 n2 c2) st (.slice A3 n3 c3) fin []):=D3.u.arp _;clear D3;generalize w6.setCell (aA g 1) (iI bits)=W6 at*
  go_wp2
  go_loopw [8] (fun iv wr=>∃(k:Nat) (A:OA) (cap:Nat) (xs:List Oq),iv=iI ((k+2:Nat):Int)/\k+2<=z/\Hid (DQ w1 wr g b0 b1 B (n2:Int) bits A k cap (.slice A2 n2 c2) st (.slice A3 n3 c3) fin xs)/\Hid (RO (cut 10 s) xs)) (fun i _=>z - (intOf i).toNat)
  case atStart=>exact ⟨0,none,0,[],rfl,aa,D4,RO.nil _⟩
  case round=>
   obtain ⟨k,A,cap,xs,rfl,hk,DD,RR⟩:=hrel;clear D4
   by_cases ba:k+2<z
   ·have NP:((k+2:Nat):Int)<(z:Int):=aa
    have lu:(0:Int)<=((k+2:Nat):Int):=aa
    have hkz:((k+2:Nat):Int)<(z:Int)+1:=aa
    obtain ⟨t,ht⟩:=ex ((cut 10 s).getD (k+2) ⟨#[]⟩);have HTZ:Hid (t.size<=1500000):=yA
    have q1:wr.cell? (aA b (o+(k+2)))=some (.string t):=by rw [<-ht];exact HY.u _ DD.u.x (k+2) aa
    have HTE:=hY ht;have HKZ:Hid (k+2<z/\z<=1202):=⟨ba,hz3⟩;obtain ⟨k1,et⟩:=ex (k+2);rw [et] at NP lu hkz q1 |-;have dy:=hY et;clear et ht hk ba;go_wp2_with fail;refine (Dq t HTZ.u _).mono ?_;rintro e w7 ⟨⟨op,okp,rfl,hrp⟩,gG⟩;have HOR:=hY (ajP hrp);have D5:=hY (DD.u.ext gG);clear hrp gG q1 DD;go_upto_region 13 with fail;have E0:Hid (au (w7.alloc (cO (jE op) 41)) w7.heap.size 41 (jE op)):=au.new _ _ _;have D6:Hid (DQ w1 (w7.alloc (cO (jE op) 41)) g b0 b1 B (n2:Int) bits A k cap (.slice A2 n2 c2) st (.slice A3 n3 c3) fin xs):=D5.u.ext ((xZ _).alloc _);generalize w7.alloc (cO (jE op) 41)=W8 at*
    generalize w7.heap.size=h at*
    clear D5;obtain ⟨⟨a0,a1,a2,a3,a4,a5,a6,a7⟩,_⟩:=uh E0.u;have p2:=D6.u.b.ck 2;have K9:Hid (k<=1800000000000):=by have:=HKZ.u;unfold Hid;omega
    go_wp2_with (at_builtin;refine D6.u.app rfl _ _ rfl rfl op _ _ rfl rfl K9.u ?_;intro A' c' w9 Wv hD9;have c0:w9.cell? (aA g 2)=some (.slice A k cap):=Wv.cell 2;have f0:w9.frozen? (aA g 2)=false:=Wv.frozen 2)
    go_roundw
    case rel=>exact ⟨k+1,A',c',xs++[op],by have:=dy.u;have:=HKZ.u;go_num,oM HKZ.u,hY hD9,hY (RR.u.snoc D6.u.len_ (by rw [HTE.u];exact HOR.u))⟩
    case measure=>simp [intOf];have:=dy.u;have:=HKZ.u;omega
   ·have NP:¬(((k+2:Nat):Int)<(z:Int)):=aa
    have HSS:Hid (∀y:Cm,vC y=true->s=ctx y->(⟨(n2:Int),bits,xs,st,fin⟩:Cm)=y):=by
     intro y hv he;have:=Nd (s:=s) (bits:=bits) (ops:=xs) (st:=st) (fin:=fin) (m:=z+1) HM.u (fun p hp hl he=>DN.u.2 ⟨#[111,110]⟩ p ae hp hl (by rw [<-HY0.u];exact he)) (fun p hp hl he=>HQ9.u.2 ⟨#[97,116]⟩ p ae hp hl (by rw [<-HYZ.u];exact he)) HBT.u RR.u (by rw [DD.u.len_];omega) y hv he;rw [TV.u] at this
     exact this
    have HKZ:Hid (k<=1202):=bN
    obtain ⟨k1,et⟩:=ex (k+2);rw [et] at NP |-;clear et hk ba;have SS:Hid (Cm.small ⟨(n2:Int),bits,xs,st,fin⟩):=⟨yB,by have:=DN.u.1;show st.length<=_;omega,by have:=HQ9.u.1;show fin.length<=_;omega⟩;have d0:=DD.u.b.ck 0;have d1:=DD.u.b.ck 1;have d2:=DD.u.b.ck 2;have d3:=DD.u.b.ck 3;have d4:=DD.u.b.ck 4;go_wp2_with fail;refine (DD.u.afa TV.u HN9.u SS.u).mono ?_;rintro e v9 ⟨rfl,Ek⟩;have D9:=hY (DD.u.ext Ek);clear Ek d0 d1 d2 d3 d4 DD;obtain ⟨⟨a0,a1,a2,a3,a4⟩,z0,z1,z2,z3,z4⟩:=qt (dv.u.ext D9.u.x);obtain ⟨os,PD⟩:=ex (ctx ⟨(n2:Int),bits,xs,st,fin⟩);rw [PD];have Yd:=hY PD;clear PD;obtain ⟨qq,LC⟩:=ex ((ByteArray.toList os==ByteArray.toList s))
    cases qq
    ·have HN:Hid (∀y:Cm,vC y=true->s≠ctx y):=uR HSS.u (by rw [Yd.u];exact LC);go_wp2
     exact bJ (v:=.tuple #[.agg jG,.bool false]) (aR rfl _ _ _ _ _ _ _ rfl rfl ((dv.u.ext D9.u.x).nM (iI 0) (iI 0) (nS) (nS) (nS)) vQ rfl mJ) rfl ⟨qp rfl HN.u,nN (cH.u.trans D9.u.x) (lI _) _ _ _ _ _⟩
    ·have HQ:=hY (ni.1 LC);have d0:=D9.u.b.ck 0;have d1:=D9.u.b.ck 1;have d2:=D9.u.b.ck 2;have d3:=D9.u.b.ck 3;have d4:=D9.u.b.ck 4;go_wp2
     exact bJ (v:=.tuple #[.agg #[iI (n2:Int),iI bits,.slice A k cap,.slice A2 n2 c2,.slice A3 n3 c3],.bool true]) (aR rfl _ _ _ _ _ _ _ rfl rfl ((dv.u.ext D9.u.x).nM (iI (n2:Int)) (iI bits) (.slice A k cap) (.slice A2 n2 c2) (.slice A3 n3 c3)) vQ rfl mJ) rfl ⟨Et D9.u HL.u _ (lK (yw HL.u) D9.u.s.2) TV.u HN9.u SS.u rfl (Dz HM.u kz) (Yd.u.trans HQ.u) HSS.u,nN (cH.u.trans D9.u.x) (lI _) _ _ _ _ _⟩
end Go.Proofs.YtodhjgngkkcjgaaGreatDoor
