import Derived.Test.YtiajdbllccmokaaGreatDoorXbf
namespace Go.Proofs.YtiajdbllccmokaaGreatDoor
open Go.ChangeShapes Go.WideShapes Go.ChangeAt Go.RowKit Go.Deep Go.Proofs.Tryz
set_option linter.unusedVariables false
set_option linter.unusedSimpArgs false
set_option maxRecDepth 100000
set_option maxHeartbeats 16000000
theorem dY.ak4 {w:World} {g s:Nat} (h:dY w g) (hs:g<s) (a b c d:Value):dY ((((w.setCell (aA s 0) a).setCell (aA s 1) b).setCell (aA s 2) c).setCell (aA s 3) d) g:=
 (((h.ba (p:=(aA s 0)) (by show g<s;omega) a).ba (p:=(aA s 1)) (by show g<s;omega) b).ba (p:=(aA s 2)) (by show g<s;omega) c).ba (p:=(aA s 3)) (by show g<s;omega) d
theorem dY.ak5 {w:World} {g s:Nat} (h:dY w g) (hs:g<s) (a b:Value):dY ((w.setCell (aA s 0) a).setCell (aA s 1) b) g:=
 (h.ba (p:=(aA s 0)) (by show g<s;omega) a).ba (p:=(aA s 1)) (by show g<s;omega) b
structure Kz (w W:World) (g s q:Nat) (N I B:Int) (A:OA) (len cap:Nat) (xs:List Oq) (n:Int) (E:OA) (l c:Nat) (es:List Ed):Prop where
 r0:ay W w.heap.size 26 #[iI 0,iI 0,iI 0,nS]
 r1:ay W (w.heap.size+1) 42 jC
 bs:ay W s 26 #[iI N,iI I,iI B,.slice A len cap]
 bq:ay W q 42 #[iI n,.slice E l c]
 o:W.ownsRow w.heap.size 56 8 (.slice A len cap) len (aI xs)
 e:W.ownsRow w.heap.size 95 2 (.slice E l c) l (bD es)
 ok:∀e∈es,e.ok
 cu:dY W g
 x:Ext w W
 gs:w.heap.size+1<g/\g<s/\g<q
section
variable {w W W':World} {g s q:Nat} {N I B N' I' B':Int} {A A':OA} {len cap pP iJ:Nat} {xs xs':List Oq} {n n':Int} {E E':OA} {l c l' c':Nat} {es Uc:List Ed}
theorem Kz.ext (h:Kz w W g s q N I B A len cap xs n E l c es) (hx:Ext W W'):Kz w W' g s q N I B A len cap xs n E l c es:=
 ⟨h.r0.ext hx,h.r1.ext hx,h.bs.ext hx,h.bq.ext hx,aq h.o hx,aq h.e hx,h.ok,h.cu.ext hx,h.x.trans hx,h.gs⟩
theorem Kz.grown (h:Kz w W g s q N I B A len cap xs n E l c es) (hg:W.grownBy W' (some g)) (hC:dY W' g):Kz w W' g s q N I B A len cap xs n E l c es:=by
 have fi:=h.gs
 exact ⟨h.r0.grown hg (fun k hk=>aw),h.r1.grown hg (fun k hk=>aw),h.bs.grown hg (fun k hk=>aw),h.bq.grown hg (fun k hk=>aw),BN h.o h.cu Mv hg,BN h.e h.cu EL hg,h.ok,hC,h.x.grown hg (fun k hk=>aw),fi⟩
theorem Kz.yz (h:Kz w W g s q N I B A len cap xs n E l c es):Kz w W.drew g s q N I B A len cap xs n E l c es:=h.ext (xZ W).drew
theorem Kz.aqg (h:Kz w W g s q N I B A len cap xs n E l c es) (ho:W.ownsRow w.heap.size 56 8 (.slice A' pP iJ) pP (aI xs')):
  Kz w ((((W.setCell (aA s 0) (iI N')).setCell (aA s 1) (iI I')).setCell (aA s 2) (iI B')).setCell (aA s 3) (.slice A' pP iJ)) g s q N' I' B' A' pP iJ xs' n E l c es:=by
 have fi:=h.gs;have hqs:q≠s:=fun e9=>by
  subst e9;have h8:=h.bs;have h7:=h.bq;unfold ay at h8 h7;rw [h7] at h8;simp at h8
 exact ⟨tL h.r0 aa _ _ _ _,tL h.r1 aa _ _ _ _,h.bs.vR _ _ _ _,tL h.bq hqs _ _ _ _,mK ho h.bs zB _ _ _ _,mK h.e h.bs tK _ _ _ _,h.ok,h.cu.ak4 fi.2.1 _ _ _ _,(((h.x.setCell (p:=(aA s 0)) (by show w.heap.size<=s;omega) _).setCell (p:=(aA s 1)) (by show w.heap.size<=s;omega) _).setCell (p:=(aA s 2)) (by show w.heap.size<=s;omega) _).setCell (p:=(aA s 3)) (by show w.heap.size<=s;omega) _,fi⟩
theorem Kz.aqh (h:Kz w W g s q N I B A len cap xs n E l c es) (ho:W.ownsRow w.heap.size 95 2 (.slice E' l' c') l' (bD Uc)) (qz:∀e∈Uc,e.ok):
  Kz w ((W.setCell (aA q 0) (iI n')).setCell (aA q 1) (.slice E' l' c')) g s q N I B A len cap xs n' E' l' c' Uc:=by
 have fi:=h.gs;have hqs:s≠q:=fun e9=>by
  subst e9;have h8:=h.bs;have h7:=h.bq;unfold ay at h8 h7;rw [h7] at h8;simp at h8
 exact ⟨(h.r0.bX (p:=(aA q 0)) (by show w.heap.size≠q;omega) _).bX (p:=(aA q 1)) (by show w.heap.size≠q;omega) _,(h.r1.bX (p:=(aA q 0)) (by show w.heap.size+1≠q;omega) _).bX (p:=(aA q 1)) (by show w.heap.size+1≠q;omega) _,(h.bs.bX (p:=(aA q 0)) hqs _).bX (p:=(aA q 1)) hqs _,h.bq.nP _ _,eI h.o h.bq qM _ _,eI ho h.bq fS _ _,qz,h.cu.ak5 fi.2.2 _ _,(h.x.setCell (p:=(aA q 0)) (by show w.heap.size<=q;omega) _).setCell (p:=(aA q 1)) (by show w.heap.size<=q;omega) _,fi⟩
theorem Kz.fin (h:Kz w W g s q N I B A len cap xs n E l c es):
  ay (Mw w W N I B A len cap n E l c) w.heap.size 26 #[iI N,iI I,iI B,.slice A len cap]/\ay (Mw w W N I B A len cap n E l c) (w.heap.size+1) 42 #[iI n,.slice E l c]/\(Mw w W N I B A len cap n E l c).ownsRow w.heap.size 56 8 (.slice A len cap) len (aI xs)/\(Mw w W N I B A len cap n E l c).ownsRow w.heap.size 95 2 (.slice E l c) l (bD es)/\Ext w (Mw w W N I B A len cap n E l c):=by
 unfold Mw;have b1:=h.r0.vR (iI N) (iI I) (iI B) (.slice A len cap);have b2:=tL h.r1 (aa:w.heap.size+1≠w.heap.size) (iI N) (iI I) (iI B) (.slice A len cap);refine ⟨(b1.bX (p:=(aA (w.heap.size+1) 0)) ag _).bX (p:=(aA (w.heap.size+1) 1)) ag _,b2.nP _ _,eI (mK h.o h.r0 zB _ _ _ _) b2 qM _ _,eI (mK h.e h.r0 tK _ _ _ _) b2 fS _ _,?_⟩
 exact (((((h.x.setCell (p:=(aA w.heap.size 0)) (lI _) _).setCell (p:=(aA w.heap.size 1)) (lI _) _).setCell (p:=(aA w.heap.size 2)) (lI _) _).setCell (p:=(aA w.heap.size 3)) (lI _) _).setCell (p:=(aA (w.heap.size+1) 0)) (Nat.le_succ _) _).setCell (p:=(aA (w.heap.size+1) 1)) (Nat.le_succ _) _
end
def afY (w:World) (e:Ending) (w':World):Prop:=
 ∃(N I B:Int) (A:OA) (len cap:Nat) (xs:List Oq) (n:Int) (E:OA) (l c:Nat) (es:List Ed) (mode:Int),e=.returned (.tuple #[.agg #[iI N,iI I,iI B,.slice A len cap],.agg #[iI n,.slice E l c],iI mode])/\(len<=200/\np xs<=6)/\l<=20/\(0<=mode/\mode<=2)/\w'.ownsRow w.heap.size 56 8 (.slice A len cap) len (aI xs)/\w'.ownsRow w.heap.size 95 2 (.slice E l c) l (bD es)/\(∀e∈es,e.ok)/\Ext w w'
theorem wW (Ab:OA) (nb cb:Nat) (bs:List Int) (w:World) (h:Rd w w.heap.size 1 Ab nb (IH bs)) (hn:nb<=1048576):
  Calls prog 25 #[.slice Ab nb cb] w (afY w):=by
 go_enter func25,ntmps25;go_wp2_with fail;refine (GA Ab nb cb bs _ (h.ext (((xZ w).alloc _).alloc _)) hn).mono ?_;rintro e w1 ⟨rfl,Ym,aS⟩;have BG:Ext w w1:=Ext.trans (((xZ w).alloc _).alloc _) aS;have hR0:ay w1 w.heap.size 26 #[iI 0,iI 0,iI 0,nS]:=((ay.new w _ _).alloc _).ext aS;have hR1:ay w1 (w.heap.size+1) 42 jC:=(ay.newAt ag).ext aS;obtain ⟨g,hg⟩:=ey (((w.alloc (cO #[iI 0,iI 0,iI 0,nS] 26)).alloc (cO jC 42)).heap.size);have LJ:g=w.heap.size+1+1:=by rw [hg];simp
 simp only [<-hg] at Ym |-;have HGR:=hY LJ;have hgw:w.heap.size+1<g:=aa
 clear hg LJ aS;have nQ:=Ym.lt
 (try rw [<-HGR.u])
 go_wp2_with fail;refine (Pf g 5 aa _ Ym).mono ?_;rintro e w2 ⟨N,I,B,A,len,cap,xs,n,E,l,c,es,rfl,⟨nM,xT⟩,hlen,Ah,Sv,Yn,CJ,vv,qz⟩;have afZ:=BG.size;have oF:=CJ.lt;have Ea:Hid (Kz w ((w2.alloc (cO #[iI N,iI I,iI B,.slice A len cap] 26)).alloc (cO #[iI (n:Int),.slice E l c] 42)) g w2.heap.size (w2.heap.size+1) N I B A len cap xs (n:Int) E l c es):=
  ⟨((hR0.grown vv (fun k hk=>aw)).alloc _).alloc _,((hR1.grown vv (fun k hk=>aw)).alloc _).alloc _,(ay.new _ _ _).alloc _,ay.newAt ag,aq (aC Sv afZ) (((xZ w2).alloc _).alloc _),aq (aC Yn afZ) (((xZ w2).alloc _).alloc _),qz,(CJ.alloc _).alloc _,((BG.grown vv (fun k hk=>aw)).alloc _).alloc _,aa⟩
 clear Sv Yn qz CJ vv hR0 hR1 BG Ym nQ afZ oF;go_upto_region 3 with fail;generalize ((w2.alloc (cO #[iI N,iI I,iI B,.slice A len cap] 26)).alloc (cO #[iI (n:Int),.slice E l c] 42))=w3 at*
 obtain ⟨q,hq⟩:=ey (w2.heap.size+1);simp only [<-hq] at Ea |-;generalize w2.heap.size=s at*
 clear hq;obtain ⟨m,hm⟩:∃m:Int,(n:Int)=m:=⟨_,rfl⟩;rw [hm] at Ea
 try rw [hm]
 clear hm nM xT;go_wp2_with fail;refine (aU g 12 _ Ea.u.cu aa).mono ?_;rintro e w4 ⟨x,rfl,⟨cH,aS,-⟩,sj,xn⟩;have HD:=hY (Ea.u.grown xn sj);clear Ea sj xn cH aS;have vA:=(Rd.own HD.u.o).len Oq.aE aa;have ZG:=PV xs;have AF:len<=200/\np xs<=6:=⟨aa,aa⟩;clear vA ZG;have Yo:l<=20:=aa
 clear hlen Ah
 by_cases e0:x=0
 ·subst e0;obtain ⟨⟨c0,c1,c2,c3⟩,x0,x1,x2,x3⟩:=dD HD.u.bs;go_wp2_with fail;refine (yd g 5 aa _ HD.u.cu).mono ?_;rintro e w5 ⟨N',I',B',A',pP,iJ,xs',rfl,-,ak8,Sv,jV,gx⟩;have gv:=hY (HD.u.grown gx jV);have Zk:=hY (aC Sv HD.u.x.size);have vy:=hY (gv.u.aqg (N':=N') (I':=I') (B':=B') Zk.u);clear c0 c1 c2 c3 x0 x1 x2 x3 HD jV gx Sv Zk AF;obtain ⟨⟨c0,c1,c2,c3⟩,x0,x1,x2,x3⟩:=dD gv.u.bs;have AF:pP<=200/\np xs'<=6:=⟨aa,aa⟩;clear ak8;go_upto_region 8 with fail;clear c0 c1 c2 c3 x0 x1 x2 x3 gv;generalize (((w5.setCell (aA s 0) (iI N')).setCell (aA s 1) (iI I')).setCell (aA s 2) (iI B')).setCell (aA s 3) (.slice A' pP iJ)=W6 at*
  have HD:=vy;clear vy;have hlen:=AF;have Ah:=Yo;refine dm (S:=(fun W=>(W.cell? (aA s 0)=some (iI N')/\W.cell? (aA s 1)=some (iI I')/\W.cell? (aA s 2)=some (iI B')/\W.cell? (aA s 3)=some (.slice A' pP iJ))/\W.cell? (aA q 0)=some (iI m)/\W.cell? (aA q 1)=some (.slice E l c))) af (⟨(dD HD.u.yz.bs).1,HD.u.yz.bq.cell 0,HD.u.yz.bq.cell 1⟩) (fun ay4=>?_);refine tq 0 ?_;refine tq 1 ?_;refine tq 2 ?_;refine o1 3 fun K hK=>?_
  go_simp;have EW:=hY (HD.u.ext (((xZ _).alloc (cO #[iI 0,iI 0,iI 1,iI 1,iI 2] 3)).drew));refine ov hK ⟨(dD EW.u.bs).1,EW.u.bq.cell 0,EW.u.bq.cell 1⟩ fun ay4=>?_
  refine o1 4 fun K hK=>?_
  go_simp;refine (dW g _ 5 _ [0,0,1,1,2] _ EW.u.cu ((fN _ _ _ _ 5 1 _ rfl rfl rfl).ext (xZ _).drew) oH aa).mono ?_;rintro e pd ⟨z,rfl,hz,AY,sZ⟩;have hzm:0<=z/\z<=2:=fl
  have fZ:=hY (EW.u.grown sZ AY);clear EW AY sZ hz;refine ov hK ⟨(dD fZ.u.bs).1,fZ.u.bq.cell 0,fZ.u.bq.cell 1⟩ fun ay4=>?_
  obtain ⟨⟨a0,a1,a2,a3⟩,y0,y1,y2,y3⟩:=dD fZ.u.r0;obtain ⟨⟨b0,b1⟩,z0,z1⟩:=fu fZ.u.r1;have fi:=fZ.u.gs;have k0:w.heap.size≠s/\w.heap.size≠q/\w.heap.size+1≠s/\w.heap.size+1≠q:=aa
  refine o1 5 fun K hK=>?_
  go_simp;have f1:ay ((((pd.setCell (aA w.heap.size 0) (iI N')).setCell (aA w.heap.size 1) (iI I')).setCell (aA w.heap.size 2) (iI B')).setCell (aA w.heap.size 3) (.slice A' pP iJ)) s 26 #[iI N',iI I',iI B',.slice A' pP iJ]:=tL fZ.u.bs k0.1.symm _ _ _ _;have f2:ay ((((pd.setCell (aA w.heap.size 0) (iI N')).setCell (aA w.heap.size 1) (iI I')).setCell (aA w.heap.size 2) (iI B')).setCell (aA w.heap.size 3) (.slice A' pP iJ)) q 42 #[iI m,.slice E l c]:=tL fZ.u.bq k0.2.1.symm _ _ _ _;have f3:ay ((((pd.setCell (aA w.heap.size 0) (iI N')).setCell (aA w.heap.size 1) (iI I')).setCell (aA w.heap.size 2) (iI B')).setCell (aA w.heap.size 3) (.slice A' pP iJ)) (w.heap.size+1) 42 jC:=tL fZ.u.r1 aa _ _ _ _;refine ov hK ⟨(dD f1).1,f2.cell 0,f2.cell 1⟩ fun ay4=>?_
  obtain ⟨⟨b0,b1⟩,z0,z1⟩:=fu f3;refine o1 6 fun K hK=>?_
  go_simp;have f4:ay ((((((pd.setCell (aA w.heap.size 0) (iI N')).setCell (aA w.heap.size 1) (iI I')).setCell (aA w.heap.size 2) (iI B')).setCell (aA w.heap.size 3) (.slice A' pP iJ)).setCell (aA (w.heap.size+1) 0) (iI m)).setCell (aA (w.heap.size+1) 1) (.slice E l c)) s 26 #[iI N',iI I',iI B',.slice A' pP iJ]:=(f1.bX (p:=(aA (w.heap.size+1) 0)) k0.2.2.1.symm _).bX (p:=(aA (w.heap.size+1) 1)) k0.2.2.1.symm _;have f5:ay ((((((pd.setCell (aA w.heap.size 0) (iI N')).setCell (aA w.heap.size 1) (iI I')).setCell (aA w.heap.size 2) (iI B')).setCell (aA w.heap.size 3) (.slice A' pP iJ)).setCell (aA (w.heap.size+1) 0) (iI m)).setCell (aA (w.heap.size+1) 1) (.slice E l c)) q 42 #[iI m,.slice E l c]:=(f2.bX (p:=(aA (w.heap.size+1) 0)) k0.2.2.2.symm _).bX (p:=(aA (w.heap.size+1) 1)) k0.2.2.2.symm _;refine hK.out _ _ ⟨(dD f4).1,f5.cell 0,f5.cell 1⟩ (fun ay4=>?_);clear hK K f1 f2 f3 f4 f5
  (try refine pt ?_)
  refine tq 7 ?_;refine dn ?_;clear ay4 a0 a1 a2 a3 y0 y1 y2 y3 b0 b1 z0 z1 fi k0;obtain ⟨e0,e1,e2,e3,e4⟩:=fZ.u.fin;have qz:=fZ.u.ok;unfold Mw at e0 e1 e2 e3 e4;generalize ((((((pd.setCell (aA w.heap.size 0) (iI N')).setCell (aA w.heap.size 1) (iI I')).setCell (aA w.heap.size 2) (iI B')).setCell (aA w.heap.size 3) (.slice A' pP iJ)).setCell (aA (w.heap.size+1) 0) (iI m)).setCell (aA (w.heap.size+1) 1) (.slice E l c))=W2 at*
  obtain ⟨⟨q0,q1,q2,q3⟩,-⟩:=dD e0;obtain ⟨⟨p0,p1⟩,-⟩:=fu e1;clear fZ;go_wp2
  exact bR (v:=.tuple #[.agg #[iI N',iI I',iI B',.slice A' pP iJ],.agg #[iI m,.slice E l c],iI z]) oI rfl ⟨N',I',B',A',pP,iJ,xs',m,E,l,c,es,z,rfl,hlen,Ah,hzm,e2,e3,qz,e4⟩
 have e0b:(x==0)=false:=sU e0
 by_cases e1:x=1
 ·subst e1;obtain ⟨⟨b0,b1⟩,z0,z1⟩:=fu HD.u.bq;go_wp2_with fail;refine (Mj g _ HD.u.cu).mono ?_;rintro e w5 ⟨n',E',l',c',Uc,rfl,-,hl',Yn,jV,gx,ala⟩;have gv:=hY (HD.u.grown gx jV);have HOE:=hY (aC Yn HD.u.x.size);have vy:=hY (gv.u.aqh (n':=n') HOE.u ala);clear b0 b1 z0 z1 HD jV gx Yn HOE Yo ala;obtain ⟨⟨b0,b1⟩,z0,z1⟩:=fu gv.u.bq;have Yo:l'<=20:=aa
  clear hl';go_upto_region 8 with fail;clear b0 b1 z0 z1 gv;generalize (w5.setCell (aA q 0) (iI n')).setCell (aA q 1) (.slice E' l' c')=W6 at*
  have HD:=vy;clear vy;have hlen:=AF;have Ah:=Yo;refine dm (S:=(fun W=>(W.cell? (aA s 0)=some (iI N)/\W.cell? (aA s 1)=some (iI I)/\W.cell? (aA s 2)=some (iI B)/\W.cell? (aA s 3)=some (.slice A len cap))/\W.cell? (aA q 0)=some (iI n')/\W.cell? (aA q 1)=some (.slice E' l' c'))) af (⟨(dD HD.u.yz.bs).1,HD.u.yz.bq.cell 0,HD.u.yz.bq.cell 1⟩) (fun ay4=>?_);refine tq 0 ?_;refine tq 1 ?_;refine tq 2 ?_;refine o1 3 fun K hK=>?_
  go_simp;have EW:=hY (HD.u.ext (((xZ _).alloc (cO #[iI 0,iI 0,iI 1,iI 1,iI 2] 3)).drew));refine ov hK ⟨(dD EW.u.bs).1,EW.u.bq.cell 0,EW.u.bq.cell 1⟩ fun ay4=>?_
  refine o1 4 fun K hK=>?_
  go_simp;refine (dW g _ 5 _ [0,0,1,1,2] _ EW.u.cu ((fN _ _ _ _ 5 1 _ rfl rfl rfl).ext (xZ _).drew) oH aa).mono ?_;rintro e pd ⟨z,rfl,hz,AY,sZ⟩;have hzm:0<=z/\z<=2:=fl
  have fZ:=hY (EW.u.grown sZ AY);clear EW AY sZ hz;refine ov hK ⟨(dD fZ.u.bs).1,fZ.u.bq.cell 0,fZ.u.bq.cell 1⟩ fun ay4=>?_
  obtain ⟨⟨a0,a1,a2,a3⟩,y0,y1,y2,y3⟩:=dD fZ.u.r0;obtain ⟨⟨b0,b1⟩,z0,z1⟩:=fu fZ.u.r1;have fi:=fZ.u.gs;have k0:w.heap.size≠s/\w.heap.size≠q/\w.heap.size+1≠s/\w.heap.size+1≠q:=aa
  refine o1 5 fun K hK=>?_
  go_simp;have f1:ay ((((pd.setCell (aA w.heap.size 0) (iI N)).setCell (aA w.heap.size 1) (iI I)).setCell (aA w.heap.size 2) (iI B)).setCell (aA w.heap.size 3) (.slice A len cap)) s 26 #[iI N,iI I,iI B,.slice A len cap]:=tL fZ.u.bs k0.1.symm _ _ _ _;have f2:ay ((((pd.setCell (aA w.heap.size 0) (iI N)).setCell (aA w.heap.size 1) (iI I)).setCell (aA w.heap.size 2) (iI B)).setCell (aA w.heap.size 3) (.slice A len cap)) q 42 #[iI n',.slice E' l' c']:=tL fZ.u.bq k0.2.1.symm _ _ _ _;have f3:ay ((((pd.setCell (aA w.heap.size 0) (iI N)).setCell (aA w.heap.size 1) (iI I)).setCell (aA w.heap.size 2) (iI B)).setCell (aA w.heap.size 3) (.slice A len cap)) (w.heap.size+1) 42 jC:=tL fZ.u.r1 aa _ _ _ _;refine ov hK ⟨(dD f1).1,f2.cell 0,f2.cell 1⟩ fun ay4=>?_
  obtain ⟨⟨b0,b1⟩,z0,z1⟩:=fu f3;refine o1 6 fun K hK=>?_
  go_simp;have f4:ay ((((((pd.setCell (aA w.heap.size 0) (iI N)).setCell (aA w.heap.size 1) (iI I)).setCell (aA w.heap.size 2) (iI B)).setCell (aA w.heap.size 3) (.slice A len cap)).setCell (aA (w.heap.size+1) 0) (iI n')).setCell (aA (w.heap.size+1) 1) (.slice E' l' c')) s 26 #[iI N,iI I,iI B,.slice A len cap]:=(f1.bX (p:=(aA (w.heap.size+1) 0)) k0.2.2.1.symm _).bX (p:=(aA (w.heap.size+1) 1)) k0.2.2.1.symm _;have f5:ay ((((((pd.setCell (aA w.heap.size 0) (iI N)).setCell (aA w.heap.size 1) (iI I)).setCell (aA w.heap.size 2) (iI B)).setCell (aA w.heap.size 3) (.slice A len cap)).setCell (aA (w.heap.size+1) 0) (iI n')).setCell (aA (w.heap.size+1) 1) (.slice E' l' c')) q 42 #[iI n',.slice E' l' c']:=(f2.bX (p:=(aA (w.heap.size+1) 0)) k0.2.2.2.symm _).bX (p:=(aA (w.heap.size+1) 1)) k0.2.2.2.symm _;refine hK.out _ _ ⟨(dD f4).1,f5.cell 0,f5.cell 1⟩ (fun ay4=>?_);clear hK K f1 f2 f3 f4 f5
  (try refine pt ?_)
  refine tq 7 ?_;refine dn ?_;clear ay4 a0 a1 a2 a3 y0 y1 y2 y3 b0 b1 z0 z1 fi k0;obtain ⟨e0,e1,e2,e3,e4⟩:=fZ.u.fin;have qz:=fZ.u.ok;unfold Mw at e0 e1 e2 e3 e4;generalize ((((((pd.setCell (aA w.heap.size 0) (iI N)).setCell (aA w.heap.size 1) (iI I)).setCell (aA w.heap.size 2) (iI B)).setCell (aA w.heap.size 3) (.slice A len cap)).setCell (aA (w.heap.size+1) 0) (iI n')).setCell (aA (w.heap.size+1) 1) (.slice E' l' c'))=W2 at*
  obtain ⟨⟨q0,q1,q2,q3⟩,-⟩:=dD e0;obtain ⟨⟨p0,p1⟩,-⟩:=fu e1;clear fZ;go_wp2
  exact bR (v:=.tuple #[.agg #[iI N,iI I,iI B,.slice A len cap],.agg #[iI n',.slice E' l' c'],iI z]) oI rfl ⟨N,I,B,A,len,cap,xs,n',E',l',c',Uc,z,rfl,hlen,Ah,hzm,e2,e3,qz,e4⟩
 have e1b:(x==1)=false:=sU e1
 go_upto_region 8 with fail;have hlen:=AF;have Ah:=Yo;refine dm (S:=(fun W=>(W.cell? (aA s 0)=some (iI N)/\W.cell? (aA s 1)=some (iI I)/\W.cell? (aA s 2)=some (iI B)/\W.cell? (aA s 3)=some (.slice A len cap))/\W.cell? (aA q 0)=some (iI m)/\W.cell? (aA q 1)=some (.slice E l c))) af (⟨(dD HD.u.yz.bs).1,HD.u.yz.bq.cell 0,HD.u.yz.bq.cell 1⟩) (fun ay4=>?_);refine tq 0 ?_;refine tq 1 ?_;refine tq 2 ?_;refine o1 3 fun K hK=>?_
 go_simp;have EW:=hY (HD.u.ext (((xZ _).alloc (cO #[iI 0,iI 0,iI 1,iI 1,iI 2] 3)).drew));refine ov hK ⟨(dD EW.u.bs).1,EW.u.bq.cell 0,EW.u.bq.cell 1⟩ fun ay4=>?_
 refine o1 4 fun K hK=>?_
 go_simp;refine (dW g _ 5 _ [0,0,1,1,2] _ EW.u.cu ((fN _ _ _ _ 5 1 _ rfl rfl rfl).ext (xZ _).drew) oH aa).mono ?_;rintro e pd ⟨z,rfl,hz,AY,sZ⟩;have hzm:0<=z/\z<=2:=fl
 have fZ:=hY (EW.u.grown sZ AY);clear EW AY sZ hz;refine ov hK ⟨(dD fZ.u.bs).1,fZ.u.bq.cell 0,fZ.u.bq.cell 1⟩ fun ay4=>?_
 obtain ⟨⟨a0,a1,a2,a3⟩,y0,y1,y2,y3⟩:=dD fZ.u.r0;obtain ⟨⟨b0,b1⟩,z0,z1⟩:=fu fZ.u.r1;have fi:=fZ.u.gs;have k0:w.heap.size≠s/\w.heap.size≠q/\w.heap.size+1≠s/\w.heap.size+1≠q:=aa
 refine o1 5 fun K hK=>?_
 go_simp;have f1:ay ((((pd.setCell (aA w.heap.size 0) (iI N)).setCell (aA w.heap.size 1) (iI I)).setCell (aA w.heap.size 2) (iI B)).setCell (aA w.heap.size 3) (.slice A len cap)) s 26 #[iI N,iI I,iI B,.slice A len cap]:=tL fZ.u.bs k0.1.symm _ _ _ _;have f2:ay ((((pd.setCell (aA w.heap.size 0) (iI N)).setCell (aA w.heap.size 1) (iI I)).setCell (aA w.heap.size 2) (iI B)).setCell (aA w.heap.size 3) (.slice A len cap)) q 42 #[iI m,.slice E l c]:=tL fZ.u.bq k0.2.1.symm _ _ _ _;have f3:ay ((((pd.setCell (aA w.heap.size 0) (iI N)).setCell (aA w.heap.size 1) (iI I)).setCell (aA w.heap.size 2) (iI B)).setCell (aA w.heap.size 3) (.slice A len cap)) (w.heap.size+1) 42 jC:=tL fZ.u.r1 aa _ _ _ _;refine ov hK ⟨(dD f1).1,f2.cell 0,f2.cell 1⟩ fun ay4=>?_
 obtain ⟨⟨b0,b1⟩,z0,z1⟩:=fu f3;refine o1 6 fun K hK=>?_
 go_simp;have f4:ay ((((((pd.setCell (aA w.heap.size 0) (iI N)).setCell (aA w.heap.size 1) (iI I)).setCell (aA w.heap.size 2) (iI B)).setCell (aA w.heap.size 3) (.slice A len cap)).setCell (aA (w.heap.size+1) 0) (iI m)).setCell (aA (w.heap.size+1) 1) (.slice E l c)) s 26 #[iI N,iI I,iI B,.slice A len cap]:=(f1.bX (p:=(aA (w.heap.size+1) 0)) k0.2.2.1.symm _).bX (p:=(aA (w.heap.size+1) 1)) k0.2.2.1.symm _;have f5:ay ((((((pd.setCell (aA w.heap.size 0) (iI N)).setCell (aA w.heap.size 1) (iI I)).setCell (aA w.heap.size 2) (iI B)).setCell (aA w.heap.size 3) (.slice A len cap)).setCell (aA (w.heap.size+1) 0) (iI m)).setCell (aA (w.heap.size+1) 1) (.slice E l c)) q 42 #[iI m,.slice E l c]:=(f2.bX (p:=(aA (w.heap.size+1) 0)) k0.2.2.2.symm _).bX (p:=(aA (w.heap.size+1) 1)) k0.2.2.2.symm _;refine hK.out _ _ ⟨(dD f4).1,f5.cell 0,f5.cell 1⟩ (fun ay4=>?_);clear hK K f1 f2 f3 f4 f5
 (try refine pt ?_)
 refine tq 7 ?_;refine dn ?_;clear ay4 a0 a1 a2 a3 y0 y1 y2 y3 b0 b1 z0 z1 fi k0;obtain ⟨e0,e1,e2,e3,e4⟩:=fZ.u.fin;have qz:=fZ.u.ok;unfold Mw at e0 e1 e2 e3 e4;generalize ((((((pd.setCell (aA w.heap.size 0) (iI N)).setCell (aA w.heap.size 1) (iI I)).setCell (aA w.heap.size 2) (iI B)).setCell (aA w.heap.size 3) (.slice A len cap)).setCell (aA (w.heap.size+1) 0) (iI m)).setCell (aA (w.heap.size+1) 1) (.slice E l c))=W2 at*
 obtain ⟨⟨q0,q1,q2,q3⟩,-⟩:=dD e0;obtain ⟨⟨p0,p1⟩,-⟩:=fu e1;clear fZ;go_wp2
 exact bR (v:=.tuple #[.agg #[iI N,iI I,iI B,.slice A len cap],.agg #[iI m,.slice E l c],iI z]) oI rfl ⟨N,I,B,A,len,cap,xs,m,E,l,c,es,z,rfl,hlen,Ah,hzm,e2,e3,qz,e4⟩
end Go.Proofs.YtiajdbllccmokaaGreatDoor
