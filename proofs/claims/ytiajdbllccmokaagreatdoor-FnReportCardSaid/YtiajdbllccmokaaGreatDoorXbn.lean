import Derived.Test.YtiajdbllccmokaaGreatDoorXbm
namespace Go.Proofs.YtiajdbllccmokaaGreatDoor
open Go.ChangeShapes Go.WideShapes Go.ChangeAt Go.RowKit Go.Deep Go.Proofs.Tryz
set_option linter.unusedVariables false
set_option linter.unusedSimpArgs false
set_option maxRecDepth 100000
set_option maxHeartbeats 16000000
theorem Fh {P:Prop} (h:P:=by
 have HSL:Hid (SR w ((W7.alloc (cO #[iI xk,iI (qa:Int),iI xb,iI xc] 54)).drew) gR (.slice Ao s.1.length co) s.1 vs s.2):=BL.u.ext (((xZ W7).alloc _).drew);have Ua:Hid (ay ((W7.alloc (cO #[iI xk,iI (qa:Int),iI xb,iI xc] 54)).drew) gq 54 #[iI xk,iI (qa:Int),iI xb,iI xc]):=LO.u.ext (((xZ W7).alloc _).drew);have HRN:Hid (Rd ((W7.alloc (cO #[iI xk,iI (qa:Int),iI xb,iI xc] 54)).drew) ((W7.alloc (cO #[iI xk,iI (qa:Int),iI xb,iI xc] 54)).drew).heap.size 4 (some ⟨W7.heap.size,0,none⟩) 1 (ak [(⟨xk,(qa:Int),xb,xc⟩:Gt)])):=eh W7 _ 54 4 _ rfl rfl;clear BL LO;refine o1 10 fun K hK=>?_
 refine eE (w0:=w) ah _ _ ah (.slice Aq l cq) l (s.2 qa) ah (by have h9:=HSL.u.row qa xo;rw [Uf,HLQ.u] at h9;exact h9) HSL.u.x _ 1 1 [(⟨xk,(qa:Int),xb,xc⟩:Gt)] ah (HRN.u) aa ?_;intro v9 w9 g1 g2 g3 g4;obtain ⟨A9,c9,rfl,-⟩:=au g1;have adC:(Value.slice Aq l cq).ownBlock=(vs qa).ownBlock:=by rw [Uf]
 rw [adC] at g3 g4;have hB9:ay w9 gR 37 #[vs 0,vs 1,vs 2,vs 3]:=cQ HSL.u.b (HSL.u.row qa xo) ae g3;have hG9:ay w9 gq 54 #[iI xk,iI (qa:Int),iI xb,iI xc]:=Ua.u.grown g3 (fun k hk e=>oM (HNQ.u k hk));have Ha:=hY (HSL.u.app xo (xs:=s.2 qa++[(⟨xk,(qa:Int),xb,xc⟩:Gt)]) (by rw [lA,HLQ.u];exact g1) g3 g2 g4);have EW:Hid (w9.cell? (aA gR qa)=some (vs qa)/\w9.frozen? (aA gR qa)=false):=⟨by rw [hB9.cell qa];rcases (show qa=0\/qa=1\/qa=2\/qa=3 by omega) with rfl|rfl|rfl|rfl<;>rfl,hB9.frozen qa⟩;have sZ:ay (w9.setCell (aA gR qa) (.slice A9 (l+1) c9)) gq 54 #[iI xk,iI (qa:Int),iI xb,iI xc]:=hG9.bX (p:=(aA gR qa)) (Ff hG9 hB9 ae) _;clear g1 g2 g3 g4 adC hB9;refine ov hK (Pv.u _ hG9) fun ay4=>?_
 refine tq 11 ?_;refine o1 12 fun K hK=>?_
 obtain ⟨hc9,hf9⟩:=EW.u;go_simp;refine ov hK (Pv.u _ sZ) fun ay4=>?_
 refine dn ?_;clear hc9 hf9 EW hG9 sZ HSL Ua HRN ay4;generalize w9.setCell (aA gR qa) (.slice A9 (l+1) c9)=W11 at*
 have HSV:Hid (qy (gs.take (k+1))=(s.1,Ks s.2 qa (s.2 qa++[(⟨xk,(qa:Int),xb,xc⟩:Gt)]))):=by
  unfold Hid;rw [zH tG.u,<-HS.u,MJ eM];rfl
 go_wp2;go_roundw
 case rel=>exact ⟨k+1,(s.1,Ks s.2 qa (s.2 qa++[(⟨xk,(qa:Int),xb,xc⟩:Gt)])),Ao,co,_,oM bS.u,by first|rfl|rw [dP.u.1]|rw [dP.u.2],JX,HSV.u.symm,rfl,Ha⟩
 case measure=>simp [intOf,dP.u.2];have:=bS.u;omega):P:=h
theorem tP (A:OA) (n c:Nat) (gs:List Gt) (N:Int) (w:World) (h:Rd w w.heap.size 4 A n (ak gs)) (hn:n<=60000000000):
  Calls prog 93 #[.slice A n c,iI N] w fun e w'=>(∃v,e=.returned v/\w'.ownsRow w.heap.size 54 4 v (ej gs N).length (ak (ej gs N)))/\Ext w w':=by
 have dB:=hY (h.len Gt.aE aa);have HR:=hY h;clear h;have HSL:Hid (∀k,k<=n->(gs.take k).all (fun g=>vg g N)=true->(qy (gs.take k)).1.length+6*LN (qy (gs.take k)).2<=6*k):=fun k hk=>Fg k (by rw [dB.u];exact hk)
 have hmk:=alp;go_enter func93,ntmps93;have Ig:Hid (SR w ((w.alloc (cO #[] 54)).alloc (cO #[nS,nS,nS,nS] 37)) (w.heap.size+1) (.slice (some ⟨w.heap.size,0,none⟩) 0 0) (qy (gs.take 0)).1 (fun _=> nS) (qy (gs.take 0)).2):=
  ⟨ay.newAt (bQ _ _).symm,(aJ w w _ 4 (xZ _)).alloc _,fun q _=>⟨by simp [qy],.inl ⟨rfl,rfl⟩⟩,fun q _ b e=>dQ,fun p q _ _ _ b e=>dQ,((xZ w).alloc _).alloc _,aa⟩
 have BP:Hid ((gs.take 0).all (fun g=>vg g N)=true):=rfl;go_upto_region 3 with fail;clear hmk;obtain ⟨gR,hgR⟩:=ex (w.heap.size+1);rw [hgR] at Ig
 try rw [hgR]
 try (rw [show (w.alloc (cO #[] 54)).heap.size=gR by rw [bQ,hgR]])
 clear hgR;generalize ((w.alloc (cO #[] 54)).alloc (cO #[nS,nS,nS,nS] 37))=W2 at*
 go_wp2
 go_loopw [5,7] (fun ov iv wr=>∃(k:Nat) (s:List Gt ×(Nat->List Gt)) (Ao:OA) (co:Nat) (vs:Nat->Value),k<=n/\iv=iI k/\Hid ((gs.take k).all (fun g=>vg g N)=true)/\Hid (s=qy (gs.take k))/\ov=.slice Ao s.1.length co/\Hid (SR w wr gR (.slice Ao s.1.length co) s.1 vs s.2)) (fun _ i _=>n - (intOf i).toNat)
 case atStart=>exact ⟨0,_,_,0,_,lJ _,rfl,BP,rfl,rfl,Ig⟩
 case round=>
  clear Ig BP;obtain ⟨k,s,Ao,co,vs,hk,rfl,BP,HS,rfl,Ig⟩:=hrel;have XG:=HSL.u k hk BP.u;rw [<-HS.u] at XG
  by_cases bh:k<n
  ·skip;obtain ⟨b,o,x,rfl,-,hx,x0,x1,x2,x3⟩:=bE (HR.u.ext Ig.u.x) bh;have bS:=hY bh;have tG:=hY hx;have dP:=hY (wC k aa);clear hx;go_upto_region 7 with fail;have agf:Hid ((∀q,q<4->∀b,(vs q).ownBlock=some b->b<wr.heap.size)/\∀b,(Value.slice Ao s.1.length co).ownBlock=some b->b<wr.heap.size):=⟨fun q hq b e=>((Ig.u.row q hq).lt b e).2,fun b e=>(Ig.u.o.lt b e).2⟩;have sx:=hY (Ig.u.ext ((xZ wr).alloc (cO (gA x) 54)));have HG6:=hY (ay.new wr 54 (gA x));clear Ig x0 x1 x2 x3;generalize wr.heap.size=gq at*
   generalize wr.alloc (cO (gA x) 54)=W6 at*
   obtain ⟨⟨g0,g1,g2,g3⟩,-⟩:=aB HG6.u;go_wp2_with fail;refine (bj x N _).mono ?_;rintro e W7 ⟨rfl,gJ⟩;have BL:=hY (sx.u.ext gJ);have LO:=hY (HG6.u.ext gJ);clear sx HG6 gJ g0 g1 g2 g3
   cases hv:vg x N
   ·have HV:Hid (ej gs N=gs):=Tx tG.u hv;have HRG:=hY (HR.u.ext BL.u.x);go_wp2_with (at_builtin;refine cU (w0:=w) rfl _ _ rfl _ 0 [] rfl (aJ w W7 _ 4 BL.u.x) (BL.u.x.alloc _) (some ⟨b,o,none⟩) n c gs rfl (HRG.u.ext ((xZ _).alloc _)) aa ?_;intro v9 w9 g1 g2 g3 g4;rw [lM,lN] at g1;have HO:=hY (lQ g1 g2);clear g1 g2 g3 g4)
    go_ret;rw [HV.u,dB.u]
    exact ⟨⟨_,rfl,HO.u.1⟩,HO.u.2⟩
   ·have HVG:=hY hv;have JX:Hid ((gs.take (k+1)).all (fun g=>vg g N)=true):=zF (f:=fun g=>vg g N) tG.u BP.u hv;clear hv BP;obtain ⟨⟨g0,g1,g2,g3⟩,-⟩:=aB LO.u;go_wp2_with fail;refine (aY x.k _).mono ?_;rintro e wq ⟨rfl,rfl⟩;clear g0 g1 g2 g3
    by_cases eM:ar x.k=1
    ·have WT:(ar x.k==1)=true:=sU eM
     have alq:decide (ar x.k=1)=true:=sU eM
     have hq:=oh HVG.u;obtain ⟨hN,-,ha,-⟩:=hq;obtain ⟨xk,xa,xb,xc⟩:=x;simp only at ha eM WT alq;obtain ⟨qa,rfl⟩:=lD ha.1;have xo:qa<4:=aa
     have axg:(0:Int)<=(qa:Int):=aa
     have axh:(qa:Int)<4:=aa
     have HNQ:Hid (∀b,(vs qa).ownBlock=some b->b<gq):=fun b e=>agf.u.1 qa xo b e
     obtain ⟨Aq,cq,Uf,-⟩:=au (BL.u.row qa xo);obtain ⟨l,hlq⟩:=ex ((s.2 qa).length);have HLQ:=hY hlq;have htq:=Pq s.2 xo;rw [hlq] at Uf htq;have hcq:=BL.u.cell xo;rw [Uf] at hcq;have hgR:gR<W7.heap.size:=BL.u.b.lt;have Pv:Hid (∀w',ay w' gq 54 #[iI xk,iI (qa:Int),iI xb,iI xc]->w'.cell? (aA gq 0)=some (iI xk)/\w'.cell? (aA gq 1)=some (iI (qa:Int))/\w'.cell? (aA gq 2)=some (iI xb)/\w'.cell? (aA gq 3)=some (iI xc)):=fun w' hb=>(aB hb).1
     clear hlq ha hN;go_upto_region 10 with fail;refine dm (S:=(fun w'=>w'.cell? (aA gq 0)=some (iI xk)/\w'.cell? (aA gq 1)=some (iI (qa:Int))/\w'.cell? (aA gq 2)=some (iI xb)/\w'.cell? (aA gq 3)=some (iI xc))) af (Pv.u _ LO.u.drew) (fun ay4=>?_);refine tq 0 ?_;refine tq 1 ?_;refine tq 2 ?_;refine tq 3 ?_;refine tq 4 ?_;refine tq 5 ?_;refine tq 6 ?_;refine tq 8 ?_;refine o2 7 9 (fun K hK=>?_) fun K hK=>?_
     ·skip;have hcv:W7.drew.cell? (aA gR qa)=some (.slice Aq l cq):=hcq;go_simp;refine ov hK (Pv.u _ LO.u.drew) fun ay4=>?_
      clear hcv;refine o1 9 fun K hK=>?_
      go_simp;refine ov hK (Pv.u _ (LO.u.ext (((xZ W7).alloc _).drew))) fun ay4=>?_
      exact Fh
     ·skip;go_simp;refine ov hK (Pv.u _ (LO.u.ext (((xZ W7).alloc _).drew))) fun ay4=>?_
      have hcv:((W7.alloc (cO #[iI xk,iI (qa:Int),iI xb,iI xc] 54)).drew).cell? (aA gR qa)=some (.slice Aq l cq):=(Below.cell (((xZ W7).alloc (cO #[iI xk,iI (qa:Int),iI xb,iI xc] 54)).drew) (p:=(aA gR qa)) hgR).trans hcq;refine o1 7 fun K hK=>?_
      go_simp;refine ov hK (Pv.u _ (LO.u.ext (((xZ W7).alloc _).drew))) fun ay4=>?_
      clear hcv
      exact Fh
    ·have WT:(ar x.k==1)=false:=sU eM
     have alq:decide (ar x.k=1)=false:=sU eM
     have HQB:=hY (Yy HVG.u);obtain ⟨⟨g0,g1,g2,g3⟩,-⟩:=aB LO.u;go_wp2_with fail;refine (fz x _).mono ?_;rintro e w8 ⟨v8,rfl,ho8,zW⟩;obtain ⟨Aq,cq,rfl,-⟩:=au ho8;have Ky:Hid (SG w w8 gR (.slice Ao s.1.length co) s.1 vs s.2 gq x (.slice Aq (pa x).length cq) (pa x)):=⟨BL.u.ext zW,LO.u.ext zW,fun e=>oM (agf.u.2 gq e),aC ho8 BL.u.x.size⟩;obtain ⟨m,hm⟩:=ex ((pa x).length);have HM:=hY hm;have hm3:m<=3:=by rw [<-hm,xN];have:=fY x.k;omega
     rw [hm] at Ky |-;clear BL LO ho8 zW hm g0 g1 g2 g3;go_wp2
     go_loopw [5,10] (fun ov jv wr=>∃(j:Nat) (t:List Gt ×(Nat->List Gt)) (Ao:OA) (co:Nat) (vs:Nat->Value),j<=m/\jv=iI j/\Hid (t=jx s ((pa x).take j))/\ov=.slice Ao t.1.length co/\Hid (SG w wr gR (.slice Ao t.1.length co) t.1 vs t.2 gq x (.slice Aq m cq) (pa x))) (fun _ i _=>m - (intOf i).toNat)
     case atStart=>exact ⟨0,s,Ao,co,vs,lJ _,rfl,rfl,rfl,Ky⟩
     case round=>
      clear Ky vs agf;obtain ⟨j,t,Ao,co,vs,hj,rfl,HT,rfl,Ky⟩:=hrel;have htl:=Ic (s:=s) HQB.u j;rw [<-HT.u] at htl
      by_cases hjm:j<m
      ·obtain ⟨bq,oq,q,hAq,-,hq,cq1⟩:=eT (by have h9:=Ky.u.i;rw [HM.u] at h9;exact Rd.own h9) hjm;subst hAq;have pc:=HQB.u q (lG hq);obtain ⟨qn,rfl⟩:=lD pc.1;have xo:qn<4:=aa
       have fP:(0:Int)<=(qn:Int):=aa
       have axj:(qn:Int)<4:=aa
       have HQ:=hY hq;have HJ:=hY hjm;obtain ⟨Ar,cr,Uf,-⟩:=au (Ky.u.row qn xo);have Rg:=Ky.u.cell xo;rw [Uf] at Rg;have htq:=Pq t.2 xo;have xi:=hY (wC j aa);have HT1:Hid (jx s ((pa x).take (j+1))=(t.1++short (t.2 qn),Ks t.2 qn [])):=by
        unfold Hid;rw [Pr hq,<-HT.u];rfl
       have HRR:Hid (Rd wr wr.heap.size 4 Ar (t.2 qn).length (ak (t.2 qn))):=by have h9:=Ky.u.row qn xo;rw [Uf] at h9;exact Rd.own h9
       clear hq pc;obtain ⟨l1,nQ⟩:=ex (t.1.length);have Kl:=hY nQ;obtain ⟨l2,oF⟩:=ex ((t.2 qn).length);have Hw:=hY oF;rw [nQ] at Ky htl |-;rw [oF] at Rg htq Uf HRR;clear nQ oF;go_wp2_with fail;refine (mq Ar l2 cr (t.2 qn) _ HRR.u aa).mono ?_;rintro e w5 ⟨⟨v5,rfl,jM⟩,cN⟩;obtain ⟨A5,c5,rfl,Fx⟩:=au jM;have XG:=zq (t.2 qn);rw [Hw.u] at XG;have ab8:=hY (Ky.u.ext cN);have Ay:=hY Fx;have iK:Hid (w5.ownsRow w.heap.size 54 4 (.slice Ao l1 co) l1 (ak t.1)):=by have h9:=ab8.u.o;rw [Kl.u] at h9;exact h9
       clear Ky HRR jM cN Fx Rg cq1;go_upto_region 16 with (at_builtin;refine cU (w0:=w) rfl _ _ rfl _ _ _ rfl iK.u ab8.u.x A5 _ c5 _ rfl Ay.u aa ?_;intro v6 w6 t1 t2 t3 t4;obtain ⟨A6,c6,rfl,-⟩:=au t1;have Yz:=hY (ab8.u.u (os':=t.1++short (t.2 qn)) oG t3 t2 t4);clear t1 t2 t3 t4)
       have Rg:=Yz.u.cell xo;have hfr:=Yz.u.b.frozen qn;have cq1:w6.cell? (aA bq (oq+j))=some (iI (qn:Int)):=by
        obtain ⟨b3,o3,q3,he,-,gK,c3⟩:=eT (by have h9:=Yz.u.i;rw [HM.u] at h9;exact Rd.own h9) HJ.u;simp only [fW,iO] at he;obtain ⟨rfl,rfl,-⟩:=he;rw [HQ.u] at gK
        cases gK
        exact c3
       have aqA:=hY (Yz.u.nil xo);clear ab8 Ay iK Yz;go_wp2;go_roundw
       case rel=>exact ⟨j+1,(t.1++short (t.2 qn),Ks t.2 qn []),A6,c6,_,oM HJ.u,by first|rfl|rw [xi.u.1]|rw [xi.u.2],HT1.u.symm,by rw [lA,Kl.u],by rw [lA,Kl.u];exact aqA⟩
       case measure=>simp [intOf,xi.u.2];have:=HJ.u;omega
      ·have Qa:j=m:=aa
       have HTM:Hid (t=jx s (pa x)):=by
        unfold Hid;rw [HT.u,lE (by rw [HM.u];omega)]
       have HSV:Hid (qy (gs.take (k+1))=(t.1++[x],t.2)):=by
        unfold Hid;rw [zH tG.u,<-HS.u,MK eM,<-HTM.u]
       clear HT HTM;obtain ⟨⟨g0,g1,g2,g3⟩,-⟩:=aB Ky.u.g;obtain ⟨l1,nQ⟩:=ex (t.1.length);have Kl:=hY nQ;rw [nQ] at Ky htl |-;clear nQ;have iK:Hid (wr.ownsRow w.heap.size 54 4 (.slice Ao l1 co) l1 (ak t.1)):=by have h9:=Ky.u.o;rw [Kl.u] at h9;exact h9
       go_wp2_with (at_builtin;refine er (w0:=w) rfl _ _ rfl _ _ _ rfl iK.u Ky.u.x x _ _ rfl rfl aa ?_;intro v6 w6 t1 t2 t3 t4;obtain ⟨A6,c6,rfl,-⟩:=au t1;have agi:=hY ((Ky.u.toSR.ext ((xZ _).alloc _)).u (os':=t.1++[x]) oG t3 t2 (by rw [bQ];exact t4));clear t1 t2 t3 t4)
       go_roundw
       case rel=>exact ⟨k+1,(t.1++[x],t.2),A6,c6,vs,oM bS.u,by first|rfl|rw [dP.u.1]|rw [dP.u.2],JX,HSV.u.symm,by rw [lA,Kl.u];rfl,by rw [lA,Kl.u];exact agi⟩
       case measure=>simp [intOf,dP.u.2];have:=bS.u;omega
  ·skip;have jT:k=n:=aa
   subst jT;have HTK:Hid (gs.take k=gs):=lE gh;rw [HTK.u] at HS BP;have HV:Hid (ej gs N=lj s 4):=by unfold Hid;rw [Pu BP.u,<-HS.u]
   have Tg:=Ie s;have Bn:Hid (∀j,(lj s j).length<=360000000000):=fun j=>oM (Tg j)
   clear HTK BP HS Tg;go_wp2
   go_loopw [5,11] (fun ov jv wr=>∃(j:Nat) (Ao:OA) (co:Nat),j<=4/\jv=iI j/\ov=.slice Ao (lj s j).length co/\Hid (SR w wr gR (.slice Ao (lj s j).length co) (lj s j) vs s.2)) (fun _ i _=>4 - (intOf i).toNat)
   case atStart=>exact ⟨0,Ao,co,aa,rfl,rfl,Ig⟩
   case round=>
    clear Ig;obtain ⟨j,Ao,co,hj,rfl,rfl,Ig⟩:=hrel;have Ah:=Bn.u j
    by_cases hj4:j<4
    ·obtain ⟨Ar,cr,Uf,-⟩:=au (Ig.u.row j hj4);have Rg:=Ig.u.cell hj4;rw [Uf] at Rg;have htq:=Pq s.2 hj4;have HJ:=hY hj4;have axk:(j:Int)<4:=aa
     have HRR:Hid (Rd wr wr.heap.size 4 Ar (s.2 j).length (ak (s.2 j))):=by have h9:=Ig.u.row j hj4;rw [Uf] at h9;exact Rd.own h9
     have HLS:Hid (lj s (j+1)=lj s j++short (s.2 j)):=Ps s hj4;have xi:=hY (wC j aa);obtain ⟨l1,nQ⟩:=ex ((lj s j).length);have Kl:=hY nQ;obtain ⟨l2,oF⟩:=ex ((s.2 j).length);have Hw:=hY oF;rw [nQ] at Ig Ah |-;rw [oF] at Rg htq Uf HRR;clear nQ oF;go_wp2_with fail;refine (mq Ar l2 cr (s.2 j) _ HRR.u aa).mono ?_;rintro e w5 ⟨⟨v5,rfl,jM⟩,cN⟩;obtain ⟨A5,c5,rfl,Fx⟩:=au jM;have XG:=zq (s.2 j);rw [Hw.u] at XG;have agj:=hY (Ig.u.ext cN);have Ay:=hY Fx;have iK:Hid (w5.ownsRow w.heap.size 54 4 (.slice Ao l1 co) l1 (ak (lj s j))):=by have h9:=agj.u.o;rw [Kl.u] at h9;exact h9
     clear Ig HRR jM cN Fx Rg;go_wp2_with (at_builtin;refine cU (w0:=w) rfl _ _ rfl _ _ _ rfl iK.u agj.u.x A5 _ c5 _ rfl Ay.u aa ?_;intro v6 w6 t1 t2 t3 t4;obtain ⟨A6,c6,rfl,-⟩:=au t1;have agi:=hY (agj.u.u (os':=lj s j++short (s.2 j)) oG t3 t2 t4);clear t1 t2 t3 t4)
     go_roundw
     case rel=>exact ⟨j+1,A6,c6,oM HJ.u,by first|rfl|rw [xi.u.1]|rw [xi.u.2],by rw [HLS.u,lA,Kl.u],by rw [HLS.u,lA,Kl.u];exact agi⟩
     case measure=>simp [intOf,xi.u.2];have:=HJ.u;omega
    ·have Qa:j=4:=aa
     subst Qa;go_wp2;go_ret;rw [HV.u]
     exact ⟨⟨_,rfl,Ig.u.o⟩,Ig.u.x⟩
theorem Fi (gs:List Gt) (n:Int):(ej gs n).length<=6*gs.length:=by
 unfold ej;split
 ·rename_i h;have h1:=Ie (qy gs) 4;have h2:=Fg (gs:=gs) (n:=n) gs.length (lI _) (by rw [jt];exact h);rw [jt] at h2;rw [ab6] at h1;omega
 ·omega
def ReR (n:Int) (gs:List Gt) (R:Option (List Gt)):Prop:=(gs.all cD=false->R=none)/\∀ys,R=some ys->ys.length<=100/\∀x∈ys,x.k<=11
def Fj (R:Option (List Gt)):List (List Gt):=match R with|none=>[]|some ys=>[dE ys]
def YA (n:Int) (gs:List Gt) (xss:List (List Gt)):Prop:=∃R,ReR n gs R/\xss=[dE gs,dE (ee gs n),dE (ej gs n)]++Fj R
def Ih (b x:List Gt):List Gt:=if aR x<aR b then x else b
def rC (gs:List Gt) (xss:List (List Gt)):List Gt:=xss.foldl Ih gs
def YB (n:Int) (gs out:List Gt):Prop:=∃xss,YA n gs xss/\out=rC gs xss
theorem Fk {gs:List Gt} {xss:List (List Gt)} {k:Nat} {x:List Gt} (h:xss[k]?=some x):rC gs (xss.take (k+1))=Ih (rC gs (xss.take k)) x:=by
 unfold rC;rw [aL h,sG];rfl
theorem Ii {n:Int} {gs:List Gt} {xss:List (List Gt)} (h:YA n gs xss) {B:Nat} (hB:6*gs.length<=B) (axm:100<=B):xss.length<=4/\∀x∈xss,x.length<=B:=by
 obtain ⟨R,hR,rfl⟩:=h;refine ⟨by cases R<;>simp [Fj],fun x hx=>?_⟩;have h1:=yb gs;have h2:=yb (ee gs n);have h3:=Aj gs n;have h4:=yb (ej gs n);have h5:=Fi gs n;rcases mM.1 hx with hx|hx
 ·simp only [qR,IA,or_false] at hx;rcases hx with rfl|rfl|rfl<;>omega
 ·cases R with
  |none=>simp [Fj] at hx
  |some ys=>
   simp [Fj] at hx;subst hx;have h6:=yb ys;have h7:=(hR.2 ys rfl).1;omega
structure WyS (w0 W:World) (Xw:OA) (m cw:Nat) (vs:List Value) (xss:List (List Gt)):Prop where
 o:W.ownsRow w0.heap.size 37 1 (.slice Xw m cw) m vs
 r:Rows w0 W W.heap.size vs xss
 l:xss.length=m
 x:Ext w0 W
theorem WyS.ext {w0 W W':World} {Xw:OA} {m cw:Nat} {vs:List Value} {xss:List (List Gt)} (h:WyS w0 W Xw m cw vs xss) (hx:Ext W W'):WyS w0 W' Xw m cw vs xss:=⟨aq h.o hx,(h.r.ext hx).more hx.size,h.l,h.x.trans hx⟩
theorem WyS.at_ {w0 W:World} {Xw:OA} {m cw:Nat} {vs:List Value} {xss:List (List Gt)} (h:WyS w0 W Xw m cw vs xss) {j:Nat} (hj:j<m):∃(g:Nat) (A:OA) (c:Nat) (x:List Gt),Xw=some ⟨g,0,none⟩/\xss[j]?=some x/\W.cell? (aA g j)=some (.slice A x.length c)/\W.ownsRow w0.heap.size 54 4 (.slice A x.length c) x.length (ak x):=by
 obtain ⟨g,u,hX,-,hv,hc,-⟩:=wS h.o hj;have hx:xss[j]?=some (xss[j]'(by rw [h.l];exact hj)):=lB _;obtain ⟨A,c,h1,h2,-⟩:=h.r.2 j _ hx;rw [hv] at h1
 cases h1
 exact ⟨g,A,c,_,hX,hx,hc,h2⟩
theorem tQ (A:OA) (n c:Nat) (gs:List Gt) (N:Int) (w:World) (h:Rd w w.heap.size 4 A n (ak gs)) (hn:n<=40000000000) (hN:0<n->1<=N/\N<=4):
  Calls prog 78 #[.slice A n c,iI N] w fun e w'=>(∃(v:Value) (out:List Gt),e=.returned v/\YB N gs out/\w'.ownsRow w.heap.size 54 4 v out.length (ak out))/\Ext w w':=by
 have dB:=hY (h.len Gt.aE aa);have HR:=hY h;clear h;go_enter func78,ntmps78;go_wp2_with fail;refine (zz A n c gs N _ HR.u hn hN).mono ?_;rintro e w1 ⟨⟨v1,jf,rfl,eF⟩,aS⟩;obtain ⟨A1,c1,rfl,pD⟩:=au eF;have Ho:=Aj gs N;rw [dB.u] at Ho;obtain ⟨l1,nQ⟩:=ex ((ee gs N).length);have Kl:=hY nQ;rw [nQ] at pD Ho |-;have mI:=hY pD;have dk:=hY aS;clear eF pD aS nQ;have Ti:=hY (HR.u.ext dk.u);go_wp2_with fail;refine (gM A n c gs _ Ti.u aa).mono ?_;rintro e w2 ⟨⟨v2,rfl,ep⟩,bH⟩;obtain ⟨A2,c2,rfl,-⟩:=au ep;have kj:=hY (dk.u.trans bH);have rP:=hY (aC ep dk.u.size);have iL:=hY (mI.u.ext bH);clear ep bH Ti mI;go_wp2_with fail;refine (gM A1 l1 c1 (ee gs N) _ iL.u aa).mono ?_;rintro e w3 ⟨⟨v3,rfl,jm⟩,bT⟩;obtain ⟨A3,c3,rfl,-⟩:=au jm;have iM:=hY (kj.u.trans bT);have als:=hY (aq rP.u bT);have sr:=hY (aC jm kj.u.size);clear jm bT iL rP;have Ti:=hY (HR.u.ext iM.u);go_wp2_with fail;refine (tP A n c gs N _ Ti.u aa).mono ?_;rintro e w4 ⟨⟨v4,rfl,rk⟩,fe⟩;obtain ⟨A4,c4,rfl,RM⟩:=au rk;have hf4:=Fi gs N;rw [dB.u] at hf4;obtain ⟨l4,hl4⟩:=ex ((ej gs N).length);have HL4:=hY hl4;rw [hl4] at RM hf4 |-;have VH:=hY RM;have Br:=hY (iM.u.trans fe);have agk:=hY (aq als.u fe);have agl:=hY (aq sr.u fe);clear rk fe RM hl4 Ti als sr;go_wp2_with fail;refine (gM A4 l4 c4 (ej gs N) _ VH.u aa).mono ?_;rintro e w5 ⟨⟨v5,rfl,jM⟩,cN⟩;obtain ⟨A5,c5,rfl,-⟩:=au jM;have iN:=hY (Br.u.trans cN);have RN:=hY (((Rows.nil (w0:=w) (W:=w5) (B:=w5.heap.size)).snoc (aq agk.u cN) (fun g hg=>((aq agk.u cN).lt g hg).2)).snoc (aq agl.u cN) (fun g hg=>((aq agl.u cN).lt g hg).2)|>.snoc (aC jM Br.u.size) (fun g hg=>(jM.lt g hg).2));simp only [lN,nY] at RN;clear jM cN agk agl VH;go_upto_region 3 with fail;have HWY:Hid (WyS w (w5.alloc (cO #[.slice A2 (dE gs).length c2,.slice A3 (dE (ee gs N)).length c3,.slice A5 (dE (ej gs N)).length c5] 37)) (some ⟨w5.heap.size,0,none⟩) 3 3 [.slice A2 (dE gs).length c2,.slice A3 (dE (ee gs N)).length c3,.slice A5 (dE (ej gs N)).length c5] [dE gs,dE (ee gs N),dE (ej gs N)]):=
  ⟨bL iN.u w5.heap.size 37 1 3 #[.slice A2 (dE gs).length c2,.slice A3 (dE (ee gs N)).length c3,.slice A5 (dE (ej gs N)).length c5] _ rfl rfl rfl aa,(RN.u.ext ((xZ _).alloc _)).more ag,rfl,iN.u.alloc _⟩
 generalize w5.alloc (cO #[.slice A2 (dE gs).length c2,.slice A3 (dE (ee gs N)).length c3,.slice A5 (dE (ej gs N)).length c5] 37)=W6 at*
 obtain ⟨vs0,alu⟩:∃vs0:List Value,vs0=[.slice A2 (dE gs).length c2,.slice A3 (dE (ee gs N)).length c3,.slice A5 (dE (ej gs N)).length c5]:=⟨_,rfl⟩;rw [<-alu] at HWY;obtain ⟨gW,hgW⟩:=ex (w5.heap.size);rw [hgW] at HWY
 try rw [hgW]
 clear alu hgW RN dk kj iM Br iN;have ZK:=hY (HR.u.ext HWY.u.x);go_wp2_with fail;refine (sX A n c gs _ ZK.u aa).mono ?_;rintro e w7 ⟨rfl,gJ⟩;have HW7:=hY (HWY.u.ext gJ);clear HWY gJ ZK;go_upto_if 28 with (fail)
 go_cut [7] (fun s7 wx=>∃(Xw:OA) (m cw:Nat) (vs:List Value) (xss:List (List Gt)),s7=.slice Xw m cw/\YA N gs xss/\WyS w wx Xw m cw vs xss)
 case first=>
  cases hcl:gs.all cD
  ·go_wp2_with fail
   go_meet
   exact ⟨_,_,_,_,_,rfl,⟨none,⟨fun _=>rfl,fun ys h9=>by cases h9⟩,rfl⟩,HW7.u⟩
  ·have HCL:=hY hcl;clear hcl;have HRC:Hid (Rd w7 w7.heap.size 4 A gs.length (ak gs)):=by have h9:=HR.u.ext HW7.u.x;rw [dB.u];exact h9
   have HRE:Hid (∀w',Ext w7 w'->Calls prog 95 #[.agg #[iI N,.slice A n c]] w' fun e w''=>CiB w' 100 e w''/\Ext w' w''):=fun w' hx=>by
    have h9:=pj A c N gs w' (HRC.u.ext hx) iP;rw [dB.u] at h9
    exact h9
   go_wp2_with fail;refine (HRE.u _ (xZ _)).mono ?_;rintro e w8 ⟨⟨N8,L8,l8,c8,Rj,b8,rfl,ho8,hl8,hk8⟩,zW⟩;have HW8:=hY (HW7.u.ext zW);have HR8:=hY (Rd.own ho8);have HK8:=hY hk8;clear hk8 ho8 zW HRE HRC HW7;go_upto_region 5 with fail;have HW9:=hY (HW8.u.ext ((xZ w8).alloc (cO #[iI N8,.slice L8 l8 c8] 50)));have TY:=hY (HR8.u.ext ((xZ w8).alloc (cO #[iI N8,.slice L8 l8 c8] 50)));have BC:=hY (ay.new w8 50 #[iI N8,.slice L8 l8 c8]);clear HW8 HR8;generalize w8.heap.size=gC at*
   generalize w8.alloc (cO #[iI N8,.slice L8 l8 c8] 50)=W9 at*
   cases b8
   ·go_wp2_with fail
    go_meet
    exact ⟨_,_,_,_,_,rfl,⟨none,⟨fun _=>rfl,fun ys h9=>by cases h9⟩,rfl⟩,HW9.u⟩
   ·obtain ⟨⟨b0,b1⟩,-⟩:=bt BC.u;have HL8:Hid (Rj.length<=100):=by
     have h9:=TY.u.len Gt.aE aa;unfold Hid;omega
    go_wp2_with fail;refine (gM L8 l8 c8 Rj _ TY.u aa).mono ?_;rintro e pd ⟨⟨v10,rfl,agn⟩,wR⟩;obtain ⟨Hz,Ue,rfl,-⟩:=au agn;have aca:=hY (HW9.u.ext (wR.alloc (cO #[.slice Hz (dE Rj).length Ue] 37)));have ME:Hid ((pd.alloc (cO #[.slice Hz (dE Rj).length Ue] 37)).ownsRow w.heap.size 54 4 (.slice Hz (dE Rj).length Ue) (dE Rj).length (ak (dE Rj))):=aC (agn.alloc _) HW9.u.x.size;have HRN:Hid (Rd (pd.alloc (cO #[.slice Hz (dE Rj).length Ue] 37)) (pd.alloc (cO #[.slice Hz (dE Rj).length Ue] 37)).heap.size 1 (some ⟨pd.heap.size,0,none⟩) 1 [.slice Hz (dE Rj).length Ue]):=eh pd _ 37 1 _ rfl rfl;clear agn wR HW9 TY BC b0 b1;go_wp2_with (at_builtin;refine JL (w0:=w) rfl _ _ rfl _ 3 vs0 rfl aca.u.o aca.u.x (.slice Hz (dE Rj).length Ue) (Hv _ _ _) pd.heap.size rfl HRN.u aa ?_;intro v11 w11 t1 t2 t3 t4;obtain ⟨A11,c11,rfl,-⟩:=au t1;have aqC:Hid (WyS w w11 A11 4 c11 (vs0++[.slice Hz (dE Rj).length Ue]) ([dE gs,dE (ee gs N),dE (ej gs N)]++[dE Rj])):=⟨t1,((aca.u.r.snoc ME.u (fun g hg=>(ME.u.lt g hg).2)).grown aca.u.o ae t3).more t3.size,rfl,t2⟩;clear t1 t2 t3 t4)
    go_meet
    exact ⟨_,_,_,_,_,rfl,⟨some Rj,⟨fun h9=>(by rw [HCL.u] at h9;cases h9),fun ys h9=>by cases h9;exact ⟨HL8.u,HK8.u⟩⟩,rfl⟩,aqC.u⟩
 case rest=>
  obtain ⟨Xw,m,cw,vs,xss,rfl,hwy,FK⟩:=hcut;have hwl:=Ii hwy (B:=240000000000) iP aa;have HWY:=hY hwy;have hm4:m<=4:=by rw [<-FK.l];exact hwl.1
  have HXL:=hY hwl.2;have aZ:=hY FK;clear hwy FK hwl HW7 vs0;have HRD:=hY (HR.u.ext aZ.u.x);go_upto_region 8 with (at_builtin;refine cU (w0:=wc) rfl _ _ rfl _ 0 [] rfl (aJ wc wc _ 4 (xZ _)) ((xZ wc).alloc _) A n c gs rfl (HRD.u.ext ((xZ _).alloc _)) aa ?_;intro v9 w9 g1 g2 g3 g4;rw [lM,lN] at g1;obtain ⟨A9,c9,rfl,-⟩:=au g1;have kN:=hY (aC g1 aZ.u.x.size);have eH:=hY (aZ.u.ext g2);clear g1 g2 g3 g4)
  clear aZ HRD;have alx:Hid (w9.ownsRow w.heap.size 54 4 (.slice A9 gs.length c9) gs.length (ak gs)):=by rw [dB.u];exact kN.u
  have HLG:Hid (gs.length<=240000000000):=by rw [dB.u];unfold Hid;omega
  rw [<-dB.u];clear kN;go_wp2
  go_loopw [10,11] (fun bv iv wr=>∃(j:Nat) (sf:List Gt) (Ab:OA) (cb:Nat),j<=m/\bv=.slice Ab sf.length cb/\iv=iI j/\Hid (sf=rC gs (xss.take j))/\Hid (sf.length<=240000000000)/\Hid (wr.ownsRow w.heap.size 54 4 (.slice Ab sf.length cb) sf.length (ak sf)/\Ext w9 wr)) (fun _ i _=>m - (intOf i).toNat)
  case atStart=>exact ⟨0,gs,A9,c9,lJ _,rfl,rfl,rfl,HLG,alx,xZ _⟩
  case round=>
   clear alx;obtain ⟨j,sf,Ab,cb,hj,rfl,rfl,HBE,HBL,HO⟩:=hrel;have FO:=HBL.u
   by_cases hjm:j<m
   ·obtain ⟨g,Ax,cx,x,hXw,hx,hcx,hox⟩:=(eH.u.ext HO.u.2).at_ hjm;subst hXw;have Zw:=HXL.u x (lG hx);have HJ:=hY hjm;have HX:=hY hx;have HOX:=hY hox;have HRX:=hY (Rd.own hox);have ZK:=hY (Rd.own HO.u.1);have aqF:=hY Zw;have dP:=hY (wC j aa);obtain ⟨lb,RW⟩:=ex (sf.length);have HLB:=hY RW;obtain ⟨lx,hlx⟩:=ex (x.length);have HLX:=hY hlx;rw [RW] at ZK FO |-;rw [hlx] at HRX hcx Zw;clear hx hox RW hlx;go_wp2_with fail;refine (gI Ax lx cx x _ HRX.u aa).mono ?_;rintro e wq ⟨rfl,rfl⟩;go_wp2_with fail;refine (gI Ab lb cb sf _ ZK.u aa).mono ?_;rintro e wq ⟨rfl,rfl⟩
    by_cases yA:aR x<aR sf
    ·have Ba:decide ((aR x:Int)<(aR sf:Int))=true:=aj
     have Fs:decide (aR x<aR sf)=true:=aj
     have HBN:Hid (rC gs (xss.take (j+1))=x):=by unfold Hid;rw [Fk HX.u,<-HBE.u];exact aX yA
     go_wp2;go_roundw
     case rel=>exact ⟨j+1,x,Ax,cx,oM HJ.u,by rw [HLX.u],by first|rfl|rw [dP.u.1]|rw [dP.u.2],HBN.u.symm,aqF,HOX.u,HO.u.2⟩
     case measure=>simp [intOf,dP.u.2];have:=HJ.u;omega
    ·have Ba:decide ((aR x:Int)<(aR sf:Int))=false:=aj
     have Fs:decide (aR x<aR sf)=false:=aj
     have HBN:Hid (rC gs (xss.take (j+1))=sf):=by unfold Hid;rw [Fk HX.u,<-HBE.u];exact aK yA
     go_wp2;go_roundw
     case rel=>exact ⟨j+1,sf,Ab,cb,oM HJ.u,by rw [HLB.u],by first|rfl|rw [dP.u.1]|rw [dP.u.2],HBN.u.symm,HBL,HO⟩
     case measure=>simp [intOf,dP.u.2];have:=HJ.u;omega
   ·have Qa:j=m:=aa
    subst Qa;have HV:Hid (YB N gs sf):=⟨xss,HWY.u,by rw [HBE.u,lE (by rw [eH.u.l];exact lI _)]⟩;go_wp2;go_ret
    exact ⟨⟨_,sf,rfl,HV.u,HO.u.1⟩,eH.u.x.trans HO.u.2⟩
def Pw (n:Int):Nat->List Gt->List Gt->Prop
 |0,cur,out=>∃ud,YB n cur ud/\aR cur<=aR ud/\out=cur
 |k+1,cur,out=>∃ud,YB n cur ud/\aR ud<aR cur/\Pw n k ud out
def yB (n:Int) (gs out:List Gt):Prop:=if (gs.all fun g=>vg g n)=true then ∃k,Pw n k gs out else out=gs
theorem uh (g:Gt):1<=dt g:=vr
theorem jg (gs:List Gt):gs.length<=aR gs:=by
 unfold aR
 induction gs with
 |nil=>simp
 |cons g gs ih=>have:=uh g;simp;omega
theorem Rk {n:Int}:∀{k:Nat} {cur out:List Gt},Pw n k cur out->aR out<=aR cur
 |0,_,_,⟨_,_,_,h⟩=>by rw [h];exact lI _
 |k+1,cur,out,⟨ud,_,h1,h2⟩=>oM (Rk h2)
theorem Ka {n:Int} {gs out:List Gt} (h:yB n gs out):aR out<=aR gs:=by
 unfold yB at h;split at h
 ·obtain ⟨k,hk⟩:=h
  exact Rk hk
 ·rw [h];exact lI _
theorem alA {n:Int} {gs out:List Gt} (h:yB n gs out):out.length<=1000*gs.length:=by
 have h1:=Ka h;have h2:=jg out;have h3:=KZ gs;omega
def ML (W:World) (b k:Nat):Int:=match W.cell? (aA b k) with
 |some v=>intOf v
 |none=>0
def rdG (W:World) (v:Value):List Gt:=match v with
 | .slice (some a) n _=>(List.range n).map fun i=>⟨ML W a.block (a.off+i*4),ML W a.block (a.off+i*4+1),ML W a.block (a.off+i*4+2),ML W a.block (a.off+i*4+3)⟩
 |_=>[]
theorem YC {W:World} {B n c:Nat} {A:OA} {xs:List Gt} (h:Rd W B 4 A n (ak xs)):rdG W (.slice A n c)=xs:=by
 have hl:=h.len Gt.aE aa;rcases zQ n with h0|h0
 ·subst h0;have:xs=[]:=xu hl;subst this
  cases A<;>rfl
 ·obtain ⟨b,o,hA,-⟩:=h.2 h0;subst hA;apply KA;intro i
  by_cases hi:i<n
  ·obtain ⟨b2,o2,x,he,-,hx,c0,c1,c2,c3⟩:=bE h hi;simp only [fW,iO] at he;obtain ⟨rfl,rfl,-⟩:=he;show ((List.range n).map _)[i]?=_;rw [sF,List.getElem?_range hi,hx];simp only [Nx,ML,c0,c1,c2,c3,intOf]
  ·show ((List.range n).map _)[i]?=_;rw [zJ aj,zJ aa]
theorem qO (A:OA) (n c:Nat) (gs:List Gt) (N:Int) (w:World) (h:Rd w w.heap.size 4 A n (ak gs)) (hn:aR gs<=40000000000):
  Calls prog 66 #[.slice A n c,iI N] w fun e w'=>(∃(v:Value) (out:List Gt),e=.returned v/\yB N gs out/\w'.ownsRow w.heap.size 54 4 v out.length (ak out))/\Ext w w':=by
 have dB:=hY (h.len Gt.aE aa);have HR:=hY h;have GC:n<=40000000000:=oN (jg gs) dB.u
 clear h;go_enter func66,ntmps66;go_upto_region 2 with (at_builtin;refine cU (w0:=w) rfl _ _ rfl _ 0 [] rfl (aJ w w _ 4 (xZ _)) ((xZ w).alloc _) A n c gs rfl (HR.u.ext ((xZ _).alloc _)) aa ?_;intro v1 w1 g1 g2 g3 g4;rw [lM,lN] at g1;obtain ⟨As,cs,rfl,-⟩:=au g1;have HSM:=hY g1;have dk:=hY g2;clear g1 g2 g3 g4)
 go_wp2
 go_loopw [6] (fun iv wr=>∃k:Nat,k<=n/\iv=iI k/\Hid ((gs.take k).all (fun g=>vg g N)=true)/\Hid (Ext w1 wr)) (fun i _=>n - (intOf i).toNat)
 case atStart=>exact ⟨0,lJ _,rfl,rfl,xZ _⟩
 case round=>
  obtain ⟨k,hk,rfl,BP,HXR⟩:=hrel
  by_cases bh:k<n
  ·obtain ⟨b,o,x,rfl,-,hx,x0,x1,x2,x3⟩:=bE (HR.u.ext (dk.u.trans HXR.u)) bh;have bS:=hY bh;have tG:=hY hx;have dP:=hY (wC k aa);clear hx;go_wp2_with fail;refine (bj x N _).mono ?_;rintro e w5 ⟨rfl,cN⟩;have iN:=hY (HXR.u.trans cN);clear cN HXR x0 x1 x2 x3
   cases hv:vg x N
   ·have HV:Hid (yB N gs gs):=by
     unfold Hid yB;rw [aK];intro h9;rw [kc.1 h9 x (lG tG.u)] at hv
     cases hv
    go_wp2_with fail;go_ret
    exact ⟨⟨_,gs,rfl,HV.u,by rw [dB.u];exact aq HSM.u iN.u⟩,dk.u.trans iN.u⟩
   ·have JX:Hid ((gs.take (k+1)).all (fun g=>vg g N)=true):=zF (f:=fun g=>vg g N) tG.u BP.u hv;clear hv;go_wp2_with fail;go_roundw
    case rel=>exact ⟨k+1,oM bS.u,by first|rfl|rw [dP.u.1]|rw [dP.u.2],JX,iN⟩
    case measure=>simp [intOf,dP.u.2];have:=bS.u;omega
  ·have jT:k=n:=aa
   subst jT;rw [lE gh] at BP;have HCN:=hY hn;have HNB:Hid (∀cur:List Gt,aR cur<=aR gs->0<cur.length->1<=N/\N<=4):=fun cur h1 h2=>by
    have h3:=jg cur
    cases gs with
    |nil=>
      simp [aR] at h1;have:aR cur=0:=by unfold aR;omega
      omega
    |cons g r=>
     have h4:=kc.1 BP.u g (nV ..);have h5:=(oh h4).1
     exact h5
   have nN:Hid (wr.ownsRow w.heap.size 54 4 (.slice As gs.length cs) gs.length (ak gs)/\Ext w wr):=⟨by rw [dB.u];exact aq HSM.u HXR.u,dk.u.trans HXR.u⟩;have HQ0:Hid (∀out,(∃k,Pw N k gs out)->yB N gs out):=fun out h9=>by
    unfold yB;rw [aX BP.u]
    exact h9
   rw [<-dB.u];clear HSM HXR bh BP hk;go_wp2
   go_loopw [5] (fun v wr=>∃(cur:List Gt) (A':OA) (c':Nat),v=.slice A' cur.length c'/\aR cur<=aR gs/\Hid (wr.ownsRow w.heap.size 54 4 (.slice A' cur.length c') cur.length (ak cur)/\Ext w wr)/\Hid (∀out,(∃k,Pw N k cur out)->yB N gs out)) (fun v wr=>aR (rdG wr v))
   case atStart=>exact ⟨gs,As,cs,rfl,lI _,nN,HQ0⟩
   case round=>
    clear nN HQ0;obtain ⟨cur,A',c',rfl,hc,HD,HQ⟩:=hrel;have hcg:=jg cur;have hcn:=HCN.u;have Zx:=hY hc;have HNC:=hY (HNB.u cur hc);have HRC:=hY (Rd.own HD.u.1);have HME:Hid (rdG wr (.slice A' cur.length c')=cur):=YC (Rd.own HD.u.1);obtain ⟨l,hl⟩:=ex (cur.length);have HL:=hY hl;rw [hl] at HRC HNC hcg |-;have oF:l<=40000000000:=aa
    clear hl hc;go_wp2_with fail;refine (tQ A' l c' cur N _ HRC.u aa HNC.u).mono ?_;rintro e w3 ⟨⟨v3,ud,rfl,qc,jm⟩,bT⟩;obtain ⟨A3,c3,rfl,-⟩:=au jm;have HBS:=hY qc;have sr:Hid (w3.ownsRow w.heap.size 54 4 (.slice A3 ud.length c3) ud.length (ak ud)/\Ext w w3):=⟨aC jm HD.u.2.size,HD.u.2.trans bT⟩;have HO:Hid (w3.ownsRow w.heap.size 54 4 (.slice A' cur.length c') cur.length (ak cur)):=aq HD.u.1 bT;have vA:ud.length<=2000000000000:=by
     obtain ⟨xss,hw,he⟩:=qc;have hwl:=Ii hw (B:=240000000000) (oM HL.u) aa;have key:∀(yss:List (List Gt)) (b:List Gt),b.length<=240000000000->(∀x∈yss,x.length<=240000000000)->(rC b yss).length<=240000000000:=by
      intro yss
      induction yss with
      |nil=>exact fun b hb _=>hb
      |cons y ys ih=>
       intro b hb hy;refine ih (Ih b y) ?_ (fun x hx=>hy x (pz _ hx));unfold Ih;split
       ·exact hy y (nV ..)
       ·exact hb
     rw [he];have:=key xss cur (oM HL.u) hwl.2;omega
    have Ak:=hY (Rd.own sr.u.1);have Gc:Hid (Rd w3 w3.heap.size 4 A' l (ak cur)):=by have h9:=Rd.own HO.u;rw [HL.u] at h9;exact h9
    obtain ⟨l3,Gy⟩:=ex (ud.length);have HL3:=hY Gy;rw [Gy] at Ak vA |-;clear Gy qc jm bT HD HRC;go_wp2_with fail;refine (gI A3 l3 c3 ud _ Ak.u aa).mono ?_;rintro e wq ⟨rfl,rfl⟩;go_wp2_with fail;refine (gI A' l c' cur _ Gc.u aa).mono ?_;rintro e wq ⟨rfl,rfl⟩
    by_cases yA:aR cur<=aR ud
    ·have Ba:decide ((aR cur:Int)<=(aR ud:Int))=true:=aj
     have Fs:decide (aR cur<=aR ud)=true:=aj
     have HV:Hid (yB N gs cur):=HQ.u cur ⟨0,ud,HBS.u,yA,rfl⟩;go_wp2;go_ret
     exact ⟨⟨_,cur,rfl,HV.u,by have h9:=HO.u;rw [HL.u] at h9 |-;exact h9⟩,sr.u.2⟩
    ·have Ba:decide ((aR cur:Int)<=(aR ud:Int))=false:=aj
     have Fs:decide (aR cur<=aR ud)=false:=aj
     have Fy:Hid (aR ud<aR cur):=bZ
     have mr:Hid (∀out,(∃k,Pw N k ud out)->yB N gs out):=fun out ⟨k,h9⟩=>HQ.u out ⟨k+1,ud,HBS.u,Fy.u,h9⟩
     go_wp2;clear yA Ba Fs;go_roundw
     case rel=>exact ⟨ud,A3,c3,by rw [HL3.u],oN Fy.u Zx.u,sr,mr⟩
     case measure=>
      rw [HL.u] at HME;rw [HME.u,YC Ak.u]
      exact Fy.u
end Go.Proofs.YtiajdbllccmokaaGreatDoor
