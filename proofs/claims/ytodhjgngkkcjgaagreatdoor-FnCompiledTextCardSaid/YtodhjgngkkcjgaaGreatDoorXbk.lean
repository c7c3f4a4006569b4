import Derived.Test.YtodhjgngkkcjgaaGreatDoorXbg
import Derived.Test.YtodhjgngkkcjgaaGreatDoorXm
namespace Go.Proofs.YtodhjgngkkcjgaaGreatDoor
open Go.ChangeShapes Go.WideShapes Go.ChangeAt Go.RowKit Go.Deep Go.Proofs.Tryz
set_option linter.unusedVariables false
set_option linter.unusedSimpArgs false
set_option maxRecDepth 100000
set_option maxHeartbeats 16000000
theorem Dt:(60:Nat)≠41:=ae
theorem uo:(63:Nat)≠41:=ae
theorem SU:(74:Nat)≠41:=ae
theorem xn:(60:Nat)≠130:=ae
def OG (w W:World) (g s:Nat) (N I B:Int) (A:OA) (len cap:Nat) (xs:List Oq):Prop:=
 au W w.heap.size 60 #[iI 0,iI 0,iI 0,nS]/\au W (w.heap.size+1) 63 jC/\au W s 60 #[iI N,iI I,iI B,.slice A len cap]/\W.ownsRow w.heap.size 41 8 (.slice A len cap) len (aJ xs)/\dQ W g/\w.grownBy W (some g)
section
variable {w W W':World} {g s q:Nat} {N I B:Int} {A:OA} {len cap:Nat} {xs:List Oq} {n:Int} {E:OA} {l c:Nat} {es:List Ed}
theorem OG.cur (h:OG w W g s N I B A len cap xs):dQ W g:=h.2.2.2.2.1
theorem OG.lt (h:OG w W g s N I B A len cap xs):s<W.heap.size/\w.heap.size+1<W.heap.size:=⟨h.2.2.1.lt,h.2.1.lt⟩
theorem OG.drew (h:OG w W g s N I B A len cap xs):OG w W.drew g s N I B A len cap xs:=by
 obtain ⟨h1,h2,h3,h4,h5,h6⟩:=h
 exact ⟨h1,h2,h3,aj h4 (xZ W).drew,h5.ext (xZ W).drew,CP h6 (xZ W).drew⟩
theorem OG.alloc (h:OG w W g s N I B A len cap xs) (o:Obj):OG w (W.alloc o) g s N I B A len cap xs:=by
 obtain ⟨h1,h2,h3,h4,h5,h6⟩:=h
 exact ⟨h1.alloc o,h2.alloc o,h3.alloc o,aj h4 ((xZ W).alloc o),h5.alloc o,jY h6 o⟩
theorem OG.grown (h:OG w W g s N I B A len cap xs) (hg:W.grownBy W' (some g)) (hC:dQ W' g) (hs:g<s) (hl:g<w.heap.size):OG w W' g s N I B A len cap xs:=by
 obtain ⟨h1,h2,h3,h4,h5,h6⟩:=h
 exact ⟨h1.grown hg (fun k hk=>ay),h2.grown hg (fun k hk=>ay),h3.grown hg (fun k hk=>ay),FA h4 h5 SU hg,hC,cJ h6 hg⟩
theorem OG.header {z0 z1:Value} (h:OG w W g s N I B A len cap xs) (hq:au W q 63 #[z0,z1]) (a b:Value) (h1q:w.heap.size+1<q) (hsq:s≠q) (hl:g<w.heap.size):OG w ((W.setCell (aA q 0) a).setCell (aA q 1) b) g s N I B A len cap xs:=by
 obtain ⟨h1,h2,h3,h4,h5,h6⟩:=h
 exact ⟨(h1.cB (p:=(aA q 0)) ai _).cB (p:=(aA q 1)) ai _,(h2.cB (p:=(aA q 0)) ai _).cB (p:=(aA q 1)) ai _,(h3.cB (p:=(aA q 0)) hsq _).cB (p:=(aA q 1)) hsq _,fi h4 hq uo _ _,h5.qz aa _ _,BH h6 aa _ _⟩
def OQ (w W:World) (g s q:Nat) (N I B:Int) (A:OA) (len cap:Nat) (xs:List Oq) (n:Int) (E:OA) (l c:Nat) (es:List Ed):Prop:=
 OG w W g s N I B A len cap xs/\au W q 63 #[iI n,.slice E l c]/\W.ownsRow w.heap.size 130 2 (.slice E l c) l (bK es)/\(∀e∈es,e.ok)/\w.heap.size+1<q/\w.heap.size+1<s
def SV (w W:World) (N I B:Int) (A:OA) (len cap:Nat) (n:Int) (E:OA) (l c:Nat):World:=
 ((((((W.setCell (aA w.heap.size 0) (iI N)).setCell (aA w.heap.size 1) (iI I)).setCell (aA w.heap.size 2) (iI B)).setCell (aA w.heap.size 3) (.slice A len cap)).setCell (aA (w.heap.size+1) 0) (iI n)).setCell (aA (w.heap.size+1) 1) (.slice E l c))
theorem oW {w:World} {r T:Nat} {z0 z1 z2 z3:Value} {B e size n:Nat} {v:Value} {xs:List Value} (ho:w.ownsRow B e size v n xs) (h:au w r T #[z0,z1,z2,z3]) (hne:T≠e) (a b c d:Value):((((w.setCell (aA r 0) a).setCell (aA r 1) b).setCell (aA r 2) c).setCell (aA r 3) d).ownsRow B e size v n xs:=
 sQ (sQ (sQ (sQ ho h hne a) (h.aU 0 a) hne b) ((h.aU 0 a).aU 1 b) hne c) (((h.aU 0 a).aU 1 b).aU 2 c) hne d
theorem xo {w:World} {r q T:Nat} {cs:Array Value} (h:au w q T cs) (hne:q≠r) (a b c d:Value):au ((((w.setCell (aA r 0) a).setCell (aA r 1) b).setCell (aA r 2) c).setCell (aA r 3) d) q T cs:=
 (((h.cB (p:=(aA r 0)) hne a).cB (p:=(aA r 1)) hne b).cB (p:=(aA r 2)) hne c).cB (p:=(aA r 3)) hne d
theorem OQ.fin (h:OQ w W g s q N I B A len cap xs n E l c es) (hl:g<w.heap.size):
  au (SV w W N I B A len cap n E l c) w.heap.size 60 #[iI N,iI I,iI B,.slice A len cap]/\au (SV w W N I B A len cap n E l c) (w.heap.size+1) 63 #[iI n,.slice E l c]/\(SV w W N I B A len cap n E l c).ownsRow w.heap.size 41 8 (.slice A len cap) len (aJ xs)/\(SV w W N I B A len cap n E l c).ownsRow w.heap.size 130 2 (.slice E l c) l (bK es)/\dQ (SV w W N I B A len cap n E l c) g/\w.grownBy (SV w W N I B A len cap n E l c) (some g):=by
 obtain ⟨⟨h1,h2,h3,h4,h5,h6⟩,k1,k2,k3,k4,k5⟩:=h;unfold SV;have b1:=h1.BD (iI N) (iI I) (iI B) (.slice A len cap);have b2:=xo h2 (aa:w.heap.size+1≠w.heap.size) (iI N) (iI I) (iI B) (.slice A len cap);refine ⟨(b1.cB (p:=(aA (w.heap.size+1) 0)) ag _).cB (p:=(aA (w.heap.size+1) 1)) ag _,b2.qz _ _,fi (oW h4 h1 Dt _ _ _ _) b2 uo _ _,fi (oW k2 h1 xn _ _ _ _) b2 hJ _ _,(h5.BD hl _ _ _ _).qz aa _ _,BH (tB h6 (lI _) _ _ _ _) aa _ _⟩
end
def PO (w:World) (g bE:Nat) (e:Ending) (w':World):Prop:=
 ∃(N I B:Int) (A:OA) (len cap:Nat) (xs:List Oq) (n:Nat) (E:OA) (l c:Nat) (es:List Ed),e=.returned (.tuple #[.agg #[iI N,iI I,iI B,.slice A len cap],.agg #[iI n,.slice E l c]])/\(1<=n/\n<=4)/\len<=bE/\l<=7/\w'.ownsRow w.heap.size 41 8 (.slice A len cap) len (aJ xs)/\w'.ownsRow w.heap.size 130 2 (.slice E l c) l (bK es)/\dQ w' g/\w.grownBy w' (some g)/\∀e∈es,e.ok
theorem PO.mk {w w':World} {g bE:Nat} (N I B:Int) (A:OA) (len cap:Nat) (xs:List Oq) (n:Nat) (E:OA) (l c:Nat) (es:List Ed) (h1:1<=n/\n<=4) (h2:len<=bE) (h3:l<=7) (h4:w'.ownsRow w.heap.size 41 8 (.slice A len cap) len (aJ xs)) (h5:w'.ownsRow w.heap.size 130 2 (.slice E l c) l (bK es)) (h6:dQ w' g) (h7:w.grownBy w' (some g)) (h8:∀e∈es,e.ok):PO w g bE (.returned (.tuple #[.agg #[iI N,iI I,iI B,.slice A len cap],.agg #[iI n,.slice E l c]])) w':=
 ⟨N,I,B,A,len,cap,xs,n,E,l,c,es,rfl,h1,h2,h3,h4,h5,h6,h7,h8⟩
theorem Vq (g bE:Nat) (hm:bE<=200) (w:World) (h:dQ w g):
  Calls prog 77 #[.pointer (some ⟨g,0,none⟩),iI bE] w (PO w g bE):=by
 have di:=h.lt;go_enter func77,ntmps77;go_wp2_with fail;refine (zt g bE hm _ ((h.alloc _).alloc _)).mono ?_;rintro e w2 ⟨N,I,B,A,len,cap,xs,rfl,hN,hlen,fg,DV,zo⟩;obtain ⟨hN1,hN3,-⟩:=hN;obtain ⟨n0,rfl⟩:=lD (aa:0<=N);have hR:=((au.new w 60 #[iI 0,iI 0,iI 0,nS]).alloc (cO jC 63)).grown zo (fun k hk=>ay);have hQ:=(au.newAt (w:=w.alloc (cO #[iI 0,iI 0,iI 0,nS] 60)) (t:=63) (cs:=jC) (b:=w.heap.size+1) ag).grown zo (fun k hk=>ay);have jW:w.grownBy w2 (some g):=cJ ((((xZ w).alloc _).alloc _).gr _) zo;have aq4:=aC fg (show w.heap.size<=((w.alloc (cO #[iI 0,iI 0,iI 0,nS] 60)).alloc (cO jC 63)).heap.size from ai);have qw:=hQ.lt;have hO:OG w (w2.alloc (cO #[iI n0,iI I,iI B,.slice A len cap] 60)) g w2.heap.size n0 I B A len cap xs:=
  ⟨hR.alloc _,hQ.alloc _,au.new _ _ _,aj aq4 ((xZ w2).alloc _),DV.alloc _,jY jW _⟩
 clear hR hQ jW aq4 fg DV zo;go_upto_region 2 with fail;generalize (w2.alloc (cO #[iI n0,iI I,iI B,.slice A len cap] 60))=w3 at*
 generalize w2.heap.size=s at*
 have HO:=hY hO;have hs3:=hO.lt.1;have hw3:=hO.lt.2;have fA:g<s:=aa
 clear hO;refine dt (S:=fun W=>W.cell? (aA s 0)=some (iI n0)) af (HO.u.2.2.1.cell 0) (fun aEQ=>?_);refine tq 0 ?_;refine tq 1 ?_;refine tq 2 ?_;refine tq 3 ?_;refine tq 4 ?_;refine tq 5 ?_
 (refine jz (i:=6) (v:=iI (5 - (n0:Int))) rfl af af af (fun _ _ _ h=>h) (Or.inl ⟨ah,?_⟩) aL ?_;· (intro w hSw;(try dsimp only at hSw);go_simp;first|done|exact lH _ aa))
 (try refine pt ?_)
 have HOd:=hY HO.u.drew;refine o2 7 10 (fun K hK=>?xA) fun K hK=>?xB
 case' xA=>
  go_simp;refine (aT g (5 - (n0:Int)) _ HOd.u.cur aa).mono ?_;rintro e w4 ⟨x,rfl,⟨cD,aK,_⟩,uW,zp⟩;have bz:=aK aa;clear aK;have qh:=hY (HOd.u.grown zp uW fA di);refine hK.out _ _ (qh.u.2.2.1.cell 0) (fun aEQ=>?_);clear hK K aEQ;have aEQ:=qh.u.2.2.1.cell 0
  (try simp only [uC,uA] at aEQ)
  (try refine pt ?_)
  obtain ⟨n,hn,awg,awh⟩:∃n:Nat,(n0:Int)+x=(n:Int)/\1<=n/\n<=4:=by
   obtain ⟨x',rfl⟩:=lD cD
   exact ⟨n0+x',aa,aa,aa⟩
  have HN:=hY hn;clear hn
  (refine jz (i:=8) (v:=iI (n:Int)) rfl af af af (fun _ _ _ h=>h) (Or.inl ⟨ah,?_⟩) aL ?_;· (intro w hSw;(try dsimp only at hSw);go_simp;first|done|(rw [HN.u];exact lH _ aa)))
  (try refine pt ?_)
  refine o2 9 10 (fun K hK=>?xA1) fun K hK=>?xA2
 case' xA1=>
  go_simp;refine (oQ g n ⟨aa,aa⟩ _ qh.u.cur).mono ?_;rintro e w5 ⟨_,E,l,c,es,rfl,rfl,DW,kg,kH,hZ,SW⟩;have jL:=hY (qh.u.grown hZ kH fA di);have HE5:=hY (aC kg (show w.heap.size<=_ from BC qh.u.2.2.2.2.2));have HK5:=hY SW;clear kg SW;refine hK.out _ _ (jL.u.2.2.1.cell 0) (fun aEQ=>?_);clear hK K aEQ;have aEQ:=jL.u.2.2.1.cell 0
  (try simp only [uC,uA] at aEQ)
  (try refine pt ?_)
  refine o1 10 fun K hK=>?_
  go_simp;have mn:=hY (jL.u.alloc (cO jC 63));refine hK.out _ _ (mn.u.2.2.1.cell 0) (fun aEQ=>?_);clear hK K aEQ;have aEQ:=mn.u.2.2.1.cell 0
  (try simp only [uC,uA] at aEQ)
  (try refine pt ?_)
  refine o1 11 fun K hK=>?_
  go_simp;have gH:=hY (jL.u.alloc (cO #[iI n,.slice E l c] 63));refine hK.out _ _ (gH.u.2.2.1.cell 0) (fun aEQ=>?_);clear hK K aEQ;have aEQ:=gH.u.2.2.1.cell 0
  (try simp only [uC,uA] at aEQ)
  (try refine pt ?_)
  refine dn ?_;have HQ:=hY (show OQ w _ g s w5.heap.size n0 I B A len cap xs n E l c es from ⟨gH.u,au.new _ _ _,aj HE5.u ((xZ w5).alloc _),HK5.u,jL.u.lt.2,aa⟩);clear qh jL mn gH HE5 hZ zp uW kH aEQ;generalize w5.alloc _=W at HQ |-;generalize w5.heap.size=q at HQ |-
 case' xA2=>
  have hw4:=qh.u.lt;go_simp;have aeU:=hY (qh.u.alloc (cO jC 63));have hZ4:=au.new w4 63 jC;refine hK.out _ _ (aeU.u.2.2.1.cell 0) (fun aEQ=>?_);clear hK K aEQ;have aEQ:=aeU.u.2.2.1.cell 0
  (try simp only [uC,uA] at aEQ)
  (try refine pt ?_)
  refine o1 9 fun K hK=>?_
  go_simp;refine (oQ g n ⟨aa,aa⟩ _ aeU.u.cur).mono ?_;rintro e w5 ⟨_,E,l,c,es,rfl,rfl,DW,kg,kH,hZ,SW⟩;have jL:=hY (aeU.u.grown hZ kH fA di);have HE5:=hY (aC kg (show w.heap.size<=_ from BC aeU.u.2.2.2.2.2));have HK5:=hY SW;clear kg SW;have HZ5:=hY (hZ4.grown hZ (fun k hk=>ay));clear hZ4;refine hK.out _ _ (jL.u.2.2.1.cell 0) (fun aEQ=>?_);clear hK K aEQ;have aEQ:=jL.u.2.2.1.cell 0
  (try simp only [uC,uA] at aEQ)
  (try refine pt ?_)
  have Un:=HZ5.u;have rV:=Un.ck 0;have qJ:∀u,(w5.setCell (aA w4.heap.size 0) u).cell? (aA w4.z 1)=some (nS):=fun u=>(Un.aU 0 u).cell 1
  have KX:=Un.frozen 0;have WZ:∀u,(w5.setCell (aA w4.heap.size 0) u).frozen? (aA w4.z 1)=false:=fun u=>(Un.aU 0 u).frozen 1
  clear Un;refine o1 11 fun K hK=>?_
  go_simp;have gH:=hY (jL.u.header HZ5.u (iI n) (.slice E l c) aa aa di);refine hK.out _ _ (gH.u.2.2.1.cell 0) (fun aEQ=>?_);clear hK K aEQ;have aEQ:=gH.u.2.2.1.cell 0
  (try simp only [uC,uA] at aEQ)
  (try refine pt ?_)
  refine dn ?_;have HQ:=hY (show OQ w _ g s w4.heap.size n0 I B A len cap xs n E l c es from ⟨gH.u,HZ5.u.qz _ _,fi HE5.u HZ5.u hJ _ _,HK5.u,aa,aa⟩);clear rV qJ KX WZ jL gH HE5 HZ5 hZ zp uW kH aEQ;generalize (w5.setCell _ _).setCell _ _=W at HQ |-;generalize LC:w4.heap.size=q at HQ |-;clear LC
 case' xB=>
  go_simp;have Vr:=hY ((HO.u.alloc (cO jC 63)).drew);have hZ3:=(au.new w3 63 jC).drew;refine hK.out _ _ (Vr.u.2.2.1.cell 0) (fun aEQ=>?_);clear hK K aEQ;have aEQ:=Vr.u.2.2.1.cell 0
  (try simp only [uC,uA] at aEQ)
  (try refine pt ?_)
  refine o1 7 fun K hK=>?_
  go_simp;refine (aT g (5 - (n0:Int)) _ Vr.u.cur aa).mono ?_;rintro e w4 ⟨x,rfl,⟨cD,aK,_⟩,uW,zp⟩;have bz:=aK aa;clear aK;have qh:=hY (Vr.u.grown zp uW fA di);have hZ4:=hZ3.grown zp (fun k hk=>ay);clear hZ3;refine hK.out _ _ (qh.u.2.2.1.cell 0) (fun aEQ=>?_);clear hK K aEQ;have aEQ:=qh.u.2.2.1.cell 0
  (try simp only [uC,uA] at aEQ)
  (try refine pt ?_)
  obtain ⟨n,hn,awg,awh⟩:∃n:Nat,(n0:Int)+x=(n:Int)/\1<=n/\n<=4:=by
   obtain ⟨x',rfl⟩:=lD cD
   exact ⟨n0+x',aa,aa,aa⟩
  have HN:=hY hn;clear hn
  (refine jz (i:=8) (v:=iI (n:Int)) rfl af af af (fun _ _ _ h=>h) (Or.inl ⟨ah,?_⟩) aL ?_;· (intro w hSw;(try dsimp only at hSw);go_simp;first|done|(rw [HN.u];exact lH _ aa)))
  (try refine pt ?_)
  refine o1 9 fun K hK=>?_
  go_simp;refine (oQ g n ⟨aa,aa⟩ _ qh.u.cur).mono ?_;rintro e w5 ⟨_,E,l,c,es,rfl,rfl,DW,kg,kH,hZ,SW⟩;have jL:=hY (qh.u.grown hZ kH fA di);have HE5:=hY (aC kg (show w.heap.size<=_ from BC qh.u.2.2.2.2.2));have HK5:=hY SW;clear kg SW;have HZ5:=hY (hZ4.grown hZ (fun k hk=>ay));clear hZ4;refine hK.out _ _ (jL.u.2.2.1.cell 0) (fun aEQ=>?_);clear hK K aEQ;have aEQ:=jL.u.2.2.1.cell 0
  (try simp only [uC,uA] at aEQ)
  (try refine pt ?_)
  have Un:=HZ5.u;have rV:=Un.ck 0;have qJ:∀u,(w5.setCell (aA w3.heap.size 0) u).cell? (aA w3.z 1)=some (nS):=fun u=>(Un.aU 0 u).cell 1
  have KX:=Un.frozen 0;have WZ:∀u,(w5.setCell (aA w3.heap.size 0) u).frozen? (aA w3.z 1)=false:=fun u=>(Un.aU 0 u).frozen 1
  clear Un;refine o1 11 fun K hK=>?_
  go_simp;have gH:=hY (jL.u.header HZ5.u (iI n) (.slice E l c) aa aa di);refine hK.out _ _ (gH.u.2.2.1.cell 0) (fun aEQ=>?_);clear hK K aEQ;have aEQ:=gH.u.2.2.1.cell 0
  (try simp only [uC,uA] at aEQ)
  (try refine pt ?_)
  refine dn ?_;have HQ:=hY (show OQ w _ g s w3.heap.size n0 I B A len cap xs n E l c es from ⟨gH.u,HZ5.u.qz _ _,fi HE5.u HZ5.u hJ _ _,HK5.u,aa,aa⟩);clear rV qJ KX WZ jL gH HE5 HZ5 hZ zp uW kH aEQ;generalize (w5.setCell _ _).setCell _ _=W at HQ |-;generalize LC:w3.heap.size=q at HQ |-;clear LC
 all_goals
  have hB4:=HQ.u.1.1;have hB5:=HQ.u.1.2.1;have hBs:=HQ.u.1.2.2.1;have hBq:=HQ.u.2.1;have Ze:=HQ.u.1.lt.2;obtain ⟨⟨a0,a1,a2,a3⟩,y0,y1,y2,y3⟩:=dJ hB4;obtain ⟨⟨b0,b1⟩,z0,z1⟩:=gg hB5;obtain ⟨⟨c0,c1,c2,c3⟩,x0,x1,x2,x3⟩:=dJ hBs;obtain ⟨⟨d0,d1⟩,v0,v1⟩:=gg hBq;clear hB4 hB5 hBs hBq;have hS:∀W',au W' s 60 #[iI n0,iI I,iI B,.slice A len cap]->au W' q 63 #[iI n,.slice E l c]->(W'.cell? (aA s 0)=some (iI n0)/\W'.cell? (aA s 1)=some (iI I)/\W'.cell? (aA s 2)=some (iI B)/\W'.cell? (aA s 3)=some (.slice A len cap))/\W'.cell? (aA q 0)=some (iI n)/\W'.cell? (aA q 1)=some (.slice E l c):=fun W' h1 h2=>⟨⟨h1.cell 0,h1.cell 1,h1.cell 2,h1.cell 3⟩,h2.cell 0,h2.cell 1⟩
  have HS:=hY hS;clear hS;go_wp2;refine dt (S:=fun W'=>(W'.cell? (aA s 0)=some (iI n0)/\W'.cell? (aA s 1)=some (iI I)/\W'.cell? (aA s 2)=some (iI B)/\W'.cell? (aA s 3)=some (.slice A len cap))/\W'.cell? (aA q 0)=some (iI n)/\W'.cell? (aA q 1)=some (.slice E l c)) af (HS.u _ HQ.u.1.2.2.1.drew HQ.u.2.1.drew) (fun aEQ=>?_);refine tq 0 ?_;refine tq 1 ?_;refine o1 2 fun K hK=>?_
  go_simp;have hs4:=xo HQ.u.1.2.2.1 (show s≠w.heap.size by have:=HQ.u.2.2.2.2.2;omega) (iI n0) (iI I) (iI B) (.slice A len cap);have Bi:=xo HQ.u.2.1 (show q≠w.heap.size by have:=HQ.u.2.2.2.2.1;omega) (iI n0) (iI I) (iI B) (.slice A len cap);refine ov hK (HS.u _ hs4.drew Bi.drew) fun aEQ=>?_
  have hb4:=xo HQ.u.1.2.1 (show w.heap.size+1≠w.heap.size by omega) (iI n0) (iI I) (iI B) (.slice A len cap);have Zv:=(hs4.cB (p:=(aA (w.heap.size+1) 0)) (show s≠w.heap.size+1 by have:=HQ.u.2.2.2.2.2;omega) (iI n)).cB (p:=(aA (w.heap.size+1) 1)) (show s≠w.heap.size+1 by have:=HQ.u.2.2.2.2.2;omega) (.slice E l c);have hq5:=(Bi.cB (p:=(aA (w.heap.size+1) 0)) (show q≠w.heap.size+1 by have:=HQ.u.2.2.2.2.1;omega) (iI n)).cB (p:=(aA (w.heap.size+1) 1)) (show q≠w.heap.size+1 by have:=HQ.u.2.2.2.2.1;omega) (.slice E l c);clear a0 a1 a2 a3 y0 y1 y2 y3 b0 b1 z0 z1;obtain ⟨⟨b0,b1⟩,z0,z1⟩:=gg hb4;have HS5:=hY (HS.u _ Zv.drew hq5.drew);clear hs4 Bi hb4 Zv hq5;have HF:=hY (HQ.u.fin di);have HKQ:=HQ.u.2.2.2.1;have HKE:=hY HKQ;clear HKQ HQ;refine o1 3 fun K hK=>?_
  go_simp;refine ov hK HS5.u fun aEQ=>?_
  refine dn ?_;clear aEQ b0 b1 z0 z1 HS5 HS c0 c1 c2 c3 x0 x1 x2 x3 d0 d1 v0 v1;obtain ⟨f1,f2,f3,f4,f5,f6⟩:=HF.u;have g0:=(f1.drew).cell 0;have g1:=(f1.drew).cell 1;have g2:=(f1.drew).cell 2;have g3:=(f1.drew).cell 3;have g4:=(f2.drew).cell 0;have g5:=(f2.drew).cell 1;have f3':=aj f3 (xZ _).drew;have f4':=aj f4 (xZ _).drew;have f5':=f5.ext (xZ _).drew;have f6':=CP f6 (xZ _).drew;clear f1 f2 f3 f4 f5 f6 HF;unfold SV at g0 g1 g2 g3 g4 g5 f3' f4' f5' f6';generalize World.drew _=W2 at g0 g1 g2 g3 g4 g5 f3' f4' f5' f6' |-;simp only [uC,uA,List.getElem?_cons_succ] at g0 g1 g2 g3 g4 g5;go_wp2
  exact bJ (v:=.tuple #[.agg #[iI n0,iI I,iI B,.slice _ _ _],.agg #[iI n,.slice _ _ _]]) (by simp [results,results77,go_sem,g0,g1,g2,g3,g4,g5]) rfl (PO.mk _ _ _ _ _ _ _ _ _ _ _ _ ⟨aa,aa⟩ hlen DW f3' f4' f5' f6' HKE.u)
theorem dQ.aq8 {w:World} {g s:Nat} (h:dQ w g) (hs:g<s) (a b c d:Value):dQ ((((w.setCell (aA s 0) a).setCell (aA s 1) b).setCell (aA s 2) c).setCell (aA s 3) d) g:=
 (((h.aU (p:=(aA s 0)) (by show g<s;omega) a).aU (p:=(aA s 1)) (by show g<s;omega) b).aU (p:=(aA s 2)) (by show g<s;omega) c).aU (p:=(aA s 3)) (by show g<s;omega) d
theorem dQ.aq9 {w:World} {g s:Nat} (h:dQ w g) (hs:g<s) (a b:Value):dQ ((w.setCell (aA s 0) a).setCell (aA s 1) b) g:=
 (h.aU (p:=(aA s 0)) (by show g<s;omega) a).aU (p:=(aA s 1)) (by show g<s;omega) b
structure Qo (w W:World) (g s q:Nat) (N I B:Int) (A:OA) (len cap:Nat) (xs:List Oq) (n:Int) (E:OA) (l c:Nat) (es:List Ed):Prop where
 r0:au W w.heap.size 60 #[iI 0,iI 0,iI 0,nS]
 r1:au W (w.heap.size+1) 63 jC
 bs:au W s 60 #[iI N,iI I,iI B,.slice A len cap]
 bq:au W q 63 #[iI n,.slice E l c]
 o:W.ownsRow w.heap.size 41 8 (.slice A len cap) len (aJ xs)
 e:W.ownsRow w.heap.size 130 2 (.slice E l c) l (bK es)
 ok:∀e∈es,e.ok
 cu:dQ W g
 x:Ext w W
 gs:w.heap.size+1<g/\g<s/\g<q
section
variable {w W W':World} {g s q:Nat} {N I B N' I' B':Int} {A A':OA} {len cap sK jM:Nat} {xs xs':List Oq} {n n':Int} {E E':OA} {l c l' c':Nat} {es es':List Ed}
theorem Qo.ext (h:Qo w W g s q N I B A len cap xs n E l c es) (hx:Ext W W'):Qo w W' g s q N I B A len cap xs n E l c es:=
 ⟨h.r0.ext hx,h.r1.ext hx,h.bs.ext hx,h.bq.ext hx,aj h.o hx,aj h.e hx,h.ok,h.cu.ext hx,h.x.trans hx,h.gs⟩
theorem Qo.grown (h:Qo w W g s q N I B A len cap xs n E l c es) (hg:W.grownBy W' (some g)) (hC:dQ W' g):Qo w W' g s q N I B A len cap xs n E l c es:=by
 have fA:=h.gs
 exact ⟨h.r0.grown hg (fun k hk=>ay),h.r1.grown hg (fun k hk=>ay),h.bs.grown hg (fun k hk=>ay),h.bq.grown hg (fun k hk=>ay),FA h.o h.cu SU hg,FA h.e h.cu Kg hg,h.ok,hC,h.x.grown hg (fun k hk=>ay),fA⟩
theorem Qo.Cr (h:Qo w W g s q N I B A len cap xs n E l c es):Qo w W.drew g s q N I B A len cap xs n E l c es:=h.ext (xZ W).drew
theorem Qo.awm (h:Qo w W g s q N I B A len cap xs n E l c es) (ho:W.ownsRow w.heap.size 41 8 (.slice A' sK jM) sK (aJ xs')):
  Qo w ((((W.setCell (aA s 0) (iI N')).setCell (aA s 1) (iI I')).setCell (aA s 2) (iI B')).setCell (aA s 3) (.slice A' sK jM)) g s q N' I' B' A' sK jM xs' n E l c es:=by
 have fA:=h.gs;have hqs:q≠s:=fun e9=>by
  subst e9;have h8:=h.bs;have h7:=h.bq;unfold au at h8 h7;rw [h7] at h8;simp at h8
 exact ⟨xo h.r0 aa _ _ _ _,xo h.r1 aa _ _ _ _,h.bs.BD _ _ _ _,xo h.bq hqs _ _ _ _,oW ho h.bs Dt _ _ _ _,oW h.e h.bs xn _ _ _ _,h.ok,h.cu.aq8 fA.2.1 _ _ _ _,(((h.x.setCell (p:=(aA s 0)) (by show w.heap.size<=s;omega) _).setCell (p:=(aA s 1)) (by show w.heap.size<=s;omega) _).setCell (p:=(aA s 2)) (by show w.heap.size<=s;omega) _).setCell (p:=(aA s 3)) (by show w.heap.size<=s;omega) _,fA⟩
theorem Qo.awn (h:Qo w W g s q N I B A len cap xs n E l c es) (ho:W.ownsRow w.heap.size 130 2 (.slice E' l' c') l' (bK es')) (sj:∀e∈es',e.ok):
  Qo w ((W.setCell (aA q 0) (iI n')).setCell (aA q 1) (.slice E' l' c')) g s q N I B A len cap xs n' E' l' c' es':=by
 have fA:=h.gs;have hqs:s≠q:=fun e9=>by
  subst e9;have h8:=h.bs;have h7:=h.bq;unfold au at h8 h7;rw [h7] at h8;simp at h8
 exact ⟨(h.r0.cB (p:=(aA q 0)) (by show w.heap.size≠q;omega) _).cB (p:=(aA q 1)) (by show w.heap.size≠q;omega) _,(h.r1.cB (p:=(aA q 0)) (by show w.heap.size+1≠q;omega) _).cB (p:=(aA q 1)) (by show w.heap.size+1≠q;omega) _,(h.bs.cB (p:=(aA q 0)) hqs _).cB (p:=(aA q 1)) hqs _,h.bq.qz _ _,fi h.o h.bq uo _ _,fi ho h.bq hJ _ _,sj,h.cu.aq9 fA.2.2 _ _,(h.x.setCell (p:=(aA q 0)) (by show w.heap.size<=q;omega) _).setCell (p:=(aA q 1)) (by show w.heap.size<=q;omega) _,fA⟩
theorem Qo.fin (h:Qo w W g s q N I B A len cap xs n E l c es):
  au (SV w W N I B A len cap n E l c) w.heap.size 60 #[iI N,iI I,iI B,.slice A len cap]/\au (SV w W N I B A len cap n E l c) (w.heap.size+1) 63 #[iI n,.slice E l c]/\(SV w W N I B A len cap n E l c).ownsRow w.heap.size 41 8 (.slice A len cap) len (aJ xs)/\(SV w W N I B A len cap n E l c).ownsRow w.heap.size 130 2 (.slice E l c) l (bK es)/\Ext w (SV w W N I B A len cap n E l c):=by
 unfold SV;have b1:=h.r0.BD (iI N) (iI I) (iI B) (.slice A len cap);have b2:=xo h.r1 (aa:w.heap.size+1≠w.heap.size) (iI N) (iI I) (iI B) (.slice A len cap);refine ⟨(b1.cB (p:=(aA (w.heap.size+1) 0)) ag _).cB (p:=(aA (w.heap.size+1) 1)) ag _,b2.qz _ _,fi (oW h.o h.r0 Dt _ _ _ _) b2 uo _ _,fi (oW h.e h.r0 xn _ _ _ _) b2 hJ _ _,?_⟩
 exact (((((h.x.setCell (p:=(aA w.heap.size 0)) (lI _) _).setCell (p:=(aA w.heap.size 1)) (lI _) _).setCell (p:=(aA w.heap.size 2)) (lI _) _).setCell (p:=(aA w.heap.size 3)) (lI _) _).setCell (p:=(aA (w.heap.size+1) 0)) (Nat.le_succ _) _).setCell (p:=(aA (w.heap.size+1) 1)) (Nat.le_succ _) _
end
def amx (w:World) (e:Ending) (w':World):Prop:=
 ∃(N I B:Int) (A:OA) (len cap:Nat) (xs:List Oq) (n:Int) (E:OA) (l c:Nat) (es:List Ed) (mode:Int),e=.returned (.tuple #[.agg #[iI N,iI I,iI B,.slice A len cap],.agg #[iI n,.slice E l c],iI mode])/\len<=200/\l<=20/\(0<=mode/\mode<=2)/\w'.ownsRow w.heap.size 41 8 (.slice A len cap) len (aJ xs)/\w'.ownsRow w.heap.size 130 2 (.slice E l c) l (bK es)/\(∀e∈es,e.ok)/\Ext w w'
theorem Ba (Ab:OA) (nb cb:Nat) (bs:List Int) (w:World) (h:Rd w w.heap.size 1 Ab nb (Gn bs)) (hn:nb<=1048576):
  Calls prog 55 #[.slice Ab nb cb] w (amx w):=by
 go_enter func55,ntmps55;go_wp2_with fail;refine (CM Ab nb cb bs _ (h.ext (((xZ w).alloc _).alloc _)) hn).mono ?_;rintro e w1 ⟨rfl,Yj,aK⟩;have xL:Ext w w1:=Ext.trans (((xZ w).alloc _).alloc _) aK;have hR0:au w1 w.heap.size 60 #[iI 0,iI 0,iI 0,nS]:=((au.new w _ _).alloc _).ext aK;have hR1:au w1 (w.heap.size+1) 63 jC:=(au.newAt ag).ext aK;obtain ⟨g,hg⟩:=ey (((w.alloc (cO #[iI 0,iI 0,iI 0,nS] 60)).alloc (cO jC 63)).heap.size);have pU:g=w.heap.size+1+1:=by rw [hg];simp
 simp only [<-hg] at Yj |-;have Qn:=hY pU;have hgw:w.heap.size+1<g:=aa
 clear hg pU aK;have pR:=Yj.lt
 (try rw [<-Qn.u])
 go_wp2_with fail;refine (Vq g 5 aa _ Yj).mono ?_;rintro e w2 ⟨N,I,B,A,len,cap,xs,n,E,l,c,es,rfl,⟨jX,zn⟩,hlen,DW,VQ,hoe,DV,zo,sj⟩;have amy:=xL.size;have qw:=DV.lt;have IW:Hid (Qo w ((w2.alloc (cO #[iI N,iI I,iI B,.slice A len cap] 60)).alloc (cO #[iI (n:Int),.slice E l c] 63)) g w2.heap.size (w2.heap.size+1) N I B A len cap xs (n:Int) E l c es):=
  ⟨((hR0.grown zo (fun k hk=>ay)).alloc _).alloc _,((hR1.grown zo (fun k hk=>ay)).alloc _).alloc _,(au.new _ _ _).alloc _,au.newAt ag,aj (aC VQ amy) (((xZ w2).alloc _).alloc _),aj (aC hoe amy) (((xZ w2).alloc _).alloc _),sj,(DV.alloc _).alloc _,((xL.grown zo (fun k hk=>ay)).alloc _).alloc _,aa⟩
 clear VQ hoe sj DV zo hR0 hR1 xL Yj pR amy qw;go_upto_region 3 with fail;generalize ((w2.alloc (cO #[iI N,iI I,iI B,.slice A len cap] 60)).alloc (cO #[iI (n:Int),.slice E l c] 63))=w3 at*
 obtain ⟨q,hq⟩:=ey (w2.heap.size+1);simp only [<-hq] at IW |-;generalize w2.heap.size=s at*
 clear hq;obtain ⟨m,hm⟩:∃m:Int,(n:Int)=m:=⟨_,rfl⟩;rw [hm] at IW
 try rw [hm]
 clear hm jX zn;go_wp2_with fail;refine (aT g 12 _ IW.u.cu aa).mono ?_;rintro e w4 ⟨x,rfl,⟨cD,aK,-⟩,uW,zp⟩;have HD:=hY (IW.u.grown zp uW);clear IW uW zp cD aK;have Ei:len<=200:=aa
 have aeY:l<=20:=aa
 clear hlen DW
 by_cases e0:x=0
 ·subst e0;obtain ⟨⟨c0,c1,c2,c3⟩,x0,x1,x2,x3⟩:=dJ HD.u.bs;go_wp2_with fail;refine (Rq g 5 aa _ HD.u.cu).mono ?_;rintro e w5 ⟨N',I',B',A',sK,jM,xs',rfl,-,arb,VQ,kH,hZ⟩;have iy:=hY (HD.u.grown hZ kH);have HOP:=hY (aC VQ HD.u.x.size);have zu:=hY (iy.u.awm (N':=N') (I':=I') (B':=B') HOP.u);clear c0 c1 c2 c3 x0 x1 x2 x3 HD kH hZ VQ HOP Ei;obtain ⟨⟨c0,c1,c2,c3⟩,x0,x1,x2,x3⟩:=dJ iy.u.bs;have Ei:sK<=200:=aa
  clear arb;go_upto_region 8 with fail;clear c0 c1 c2 c3 x0 x1 x2 x3 iy;generalize (((w5.setCell (aA s 0) (iI N')).setCell (aA s 1) (iI I')).setCell (aA s 2) (iI B')).setCell (aA s 3) (.slice A' sK jM)=W6 at*
  have HD:=zu;clear zu;have hlen:=Ei;have DW:=aeY;refine dt (S:=(fun W=>(W.cell? (aA s 0)=some (iI N')/\W.cell? (aA s 1)=some (iI I')/\W.cell? (aA s 2)=some (iI B')/\W.cell? (aA s 3)=some (.slice A' sK jM))/\W.cell? (aA q 0)=some (iI m)/\W.cell? (aA q 1)=some (.slice E l c))) af (⟨(dJ HD.u.Cr.bs).1,HD.u.Cr.bq.cell 0,HD.u.Cr.bq.cell 1⟩) (fun aEQ=>?_);refine tq 0 ?_;refine tq 1 ?_;refine tq 2 ?_;refine o1 3 fun K hK=>?_
  go_simp;have Ky:=hY (HD.u.ext (((xZ _).alloc (cO #[iI 0,iI 0,iI 1,iI 1,iI 2] 3)).drew));refine ov hK ⟨(dJ Ky.u.bs).1,Ky.u.bq.cell 0,Ky.u.bq.cell 1⟩ fun aEQ=>?_
  refine o1 4 fun K hK=>?_
  go_simp;refine (dY g _ 5 _ [0,0,1,1,2] _ Ky.u.cu ((eC _ _ _ _ 5 1 _ rfl rfl rfl).ext (xZ _).drew) rh aa).mono ?_;rintro e qO ⟨z,rfl,hz,EF,wF⟩;have hzm:0<=z/\z<=2:=fS
  have ij:=hY (Ky.u.grown wF EF);clear Ky EF wF hz;refine ov hK ⟨(dJ ij.u.bs).1,ij.u.bq.cell 0,ij.u.bq.cell 1⟩ fun aEQ=>?_
  obtain ⟨⟨a0,a1,a2,a3⟩,y0,y1,y2,y3⟩:=dJ ij.u.r0;obtain ⟨⟨b0,b1⟩,z0,z1⟩:=gg ij.u.r1;have fA:=ij.u.gs;have k0:w.heap.size≠s/\w.heap.size≠q/\w.heap.size+1≠s/\w.heap.size+1≠q:=aa
  refine o1 5 fun K hK=>?_
  go_simp;have f1:au ((((qO.setCell (aA w.heap.size 0) (iI N')).setCell (aA w.heap.size 1) (iI I')).setCell (aA w.heap.size 2) (iI B')).setCell (aA w.heap.size 3) (.slice A' sK jM)) s 60 #[iI N',iI I',iI B',.slice A' sK jM]:=xo ij.u.bs k0.1.symm _ _ _ _;have f2:au ((((qO.setCell (aA w.heap.size 0) (iI N')).setCell (aA w.heap.size 1) (iI I')).setCell (aA w.heap.size 2) (iI B')).setCell (aA w.heap.size 3) (.slice A' sK jM)) q 63 #[iI m,.slice E l c]:=xo ij.u.bq k0.2.1.symm _ _ _ _;have f3:au ((((qO.setCell (aA w.heap.size 0) (iI N')).setCell (aA w.heap.size 1) (iI I')).setCell (aA w.heap.size 2) (iI B')).setCell (aA w.heap.size 3) (.slice A' sK jM)) (w.heap.size+1) 63 jC:=xo ij.u.r1 aa _ _ _ _;refine ov hK ⟨(dJ f1).1,f2.cell 0,f2.cell 1⟩ fun aEQ=>?_
  obtain ⟨⟨b0,b1⟩,z0,z1⟩:=gg f3;refine o1 6 fun K hK=>?_
  go_simp;have f4:au ((((((qO.setCell (aA w.heap.size 0) (iI N')).setCell (aA w.heap.size 1) (iI I')).setCell (aA w.heap.size 2) (iI B')).setCell (aA w.heap.size 3) (.slice A' sK jM)).setCell (aA (w.heap.size+1) 0) (iI m)).setCell (aA (w.heap.size+1) 1) (.slice E l c)) s 60 #[iI N',iI I',iI B',.slice A' sK jM]:=(f1.cB (p:=(aA (w.heap.size+1) 0)) k0.2.2.1.symm _).cB (p:=(aA (w.heap.size+1) 1)) k0.2.2.1.symm _;have f5:au ((((((qO.setCell (aA w.heap.size 0) (iI N')).setCell (aA w.heap.size 1) (iI I')).setCell (aA w.heap.size 2) (iI B')).setCell (aA w.heap.size 3) (.slice A' sK jM)).setCell (aA (w.heap.size+1) 0) (iI m)).setCell (aA (w.heap.size+1) 1) (.slice E l c)) q 63 #[iI m,.slice E l c]:=(f2.cB (p:=(aA (w.heap.size+1) 0)) k0.2.2.2.symm _).cB (p:=(aA (w.heap.size+1) 1)) k0.2.2.2.symm _;refine hK.out _ _ ⟨(dJ f4).1,f5.cell 0,f5.cell 1⟩ (fun aEQ=>?_);clear hK K f1 f2 f3 f4 f5
  (try refine pt ?_)
  refine tq 7 ?_;refine dn ?_;clear aEQ a0 a1 a2 a3 y0 y1 y2 y3 b0 b1 z0 z1 fA k0;obtain ⟨e0,e1,e2,e3,e4⟩:=ij.u.fin;have sj:=ij.u.ok;unfold SV at e0 e1 e2 e3 e4;generalize ((((((qO.setCell (aA w.heap.size 0) (iI N')).setCell (aA w.heap.size 1) (iI I')).setCell (aA w.heap.size 2) (iI B')).setCell (aA w.heap.size 3) (.slice A' sK jM)).setCell (aA (w.heap.size+1) 0) (iI m)).setCell (aA (w.heap.size+1) 1) (.slice E l c))=W2 at*
  obtain ⟨⟨q0,q1,q2,q3⟩,-⟩:=dJ e0;obtain ⟨⟨p0,p1⟩,-⟩:=gg e1;clear ij;go_wp2
  exact bJ (v:=.tuple #[.agg #[iI N',iI I',iI B',.slice A' sK jM],.agg #[iI m,.slice E l c],iI z]) ri rfl ⟨N',I',B',A',sK,jM,xs',m,E,l,c,es,z,rfl,hlen,DW,hzm,e2,e3,sj,e4⟩
 have e0b:(x==0)=false:=sU e0
 by_cases e1:x=1
 ·subst e1;obtain ⟨⟨b0,b1⟩,z0,z1⟩:=gg HD.u.bq;go_wp2_with fail;refine (So g _ HD.u.cu).mono ?_;rintro e w5 ⟨n',E',l',c',es',rfl,-,hl',hoe,kH,hZ,ard⟩;have iy:=hY (HD.u.grown hZ kH);have HOE:=hY (aC hoe HD.u.x.size);have zu:=hY (iy.u.awn (n':=n') HOE.u ard);clear b0 b1 z0 z1 HD kH hZ hoe HOE aeY ard;obtain ⟨⟨b0,b1⟩,z0,z1⟩:=gg iy.u.bq;have aeY:l'<=20:=aa
  clear hl';go_upto_region 8 with fail;clear b0 b1 z0 z1 iy;generalize (w5.setCell (aA q 0) (iI n')).setCell (aA q 1) (.slice E' l' c')=W6 at*
  have HD:=zu;clear zu;have hlen:=Ei;have DW:=aeY;refine dt (S:=(fun W=>(W.cell? (aA s 0)=some (iI N)/\W.cell? (aA s 1)=some (iI I)/\W.cell? (aA s 2)=some (iI B)/\W.cell? (aA s 3)=some (.slice A len cap))/\W.cell? (aA q 0)=some (iI n')/\W.cell? (aA q 1)=some (.slice E' l' c'))) af (⟨(dJ HD.u.Cr.bs).1,HD.u.Cr.bq.cell 0,HD.u.Cr.bq.cell 1⟩) (fun aEQ=>?_);refine tq 0 ?_;refine tq 1 ?_;refine tq 2 ?_;refine o1 3 fun K hK=>?_
  go_simp;have Ky:=hY (HD.u.ext (((xZ _).alloc (cO #[iI 0,iI 0,iI 1,iI 1,iI 2] 3)).drew));refine ov hK ⟨(dJ Ky.u.bs).1,Ky.u.bq.cell 0,Ky.u.bq.cell 1⟩ fun aEQ=>?_
  refine o1 4 fun K hK=>?_
  go_simp;refine (dY g _ 5 _ [0,0,1,1,2] _ Ky.u.cu ((eC _ _ _ _ 5 1 _ rfl rfl rfl).ext (xZ _).drew) rh aa).mono ?_;rintro e qO ⟨z,rfl,hz,EF,wF⟩;have hzm:0<=z/\z<=2:=fS
  have ij:=hY (Ky.u.grown wF EF);clear Ky EF wF hz;refine ov hK ⟨(dJ ij.u.bs).1,ij.u.bq.cell 0,ij.u.bq.cell 1⟩ fun aEQ=>?_
  obtain ⟨⟨a0,a1,a2,a3⟩,y0,y1,y2,y3⟩:=dJ ij.u.r0;obtain ⟨⟨b0,b1⟩,z0,z1⟩:=gg ij.u.r1;have fA:=ij.u.gs;have k0:w.heap.size≠s/\w.heap.size≠q/\w.heap.size+1≠s/\w.heap.size+1≠q:=aa
  refine o1 5 fun K hK=>?_
  go_simp;have f1:au ((((qO.setCell (aA w.heap.size 0) (iI N)).setCell (aA w.heap.size 1) (iI I)).setCell (aA w.heap.size 2) (iI B)).setCell (aA w.heap.size 3) (.slice A len cap)) s 60 #[iI N,iI I,iI B,.slice A len cap]:=xo ij.u.bs k0.1.symm _ _ _ _;have f2:au ((((qO.setCell (aA w.heap.size 0) (iI N)).setCell (aA w.heap.size 1) (iI I)).setCell (aA w.heap.size 2) (iI B)).setCell (aA w.heap.size 3) (.slice A len cap)) q 63 #[iI n',.slice E' l' c']:=xo ij.u.bq k0.2.1.symm _ _ _ _;have f3:au ((((qO.setCell (aA w.heap.size 0) (iI N)).setCell (aA w.heap.size 1) (iI I)).setCell (aA w.heap.size 2) (iI B)).setCell (aA w.heap.size 3) (.slice A len cap)) (w.heap.size+1) 63 jC:=xo ij.u.r1 aa _ _ _ _;refine ov hK ⟨(dJ f1).1,f2.cell 0,f2.cell 1⟩ fun aEQ=>?_
  obtain ⟨⟨b0,b1⟩,z0,z1⟩:=gg f3;refine o1 6 fun K hK=>?_
  go_simp;have f4:au ((((((qO.setCell (aA w.heap.size 0) (iI N)).setCell (aA w.heap.size 1) (iI I)).setCell (aA w.heap.size 2) (iI B)).setCell (aA w.heap.size 3) (.slice A len cap)).setCell (aA (w.heap.size+1) 0) (iI n')).setCell (aA (w.heap.size+1) 1) (.slice E' l' c')) s 60 #[iI N,iI I,iI B,.slice A len cap]:=(f1.cB (p:=(aA (w.heap.size+1) 0)) k0.2.2.1.symm _).cB (p:=(aA (w.heap.size+1) 1)) k0.2.2.1.symm _;have f5:au ((((((qO.setCell (aA w.heap.size 0) (iI N)).setCell (aA w.heap.size 1) (iI I)).setCell (aA w.heap.size 2) (iI B)).setCell (aA w.heap.size 3) (.slice A len cap)).setCell (aA (w.heap.size+1) 0) (iI n')).setCell (aA (w.heap.size+1) 1) (.slice E' l' c')) q 63 #[iI n',.slice E' l' c']:=(f2.cB (p:=(aA (w.heap.size+1) 0)) k0.2.2.2.symm _).cB (p:=(aA (w.heap.size+1) 1)) k0.2.2.2.symm _;refine hK.out _ _ ⟨(dJ f4).1,f5.cell 0,f5.cell 1⟩ (fun aEQ=>?_);clear hK K f1 f2 f3 f4 f5
  (try refine pt ?_)
  refine tq 7 ?_;refine dn ?_;clear aEQ a0 a1 a2 a3 y0 y1 y2 y3 b0 b1 z0 z1 fA k0;obtain ⟨e0,e1,e2,e3,e4⟩:=ij.u.fin;have sj:=ij.u.ok;unfold SV at e0 e1 e2 e3 e4;generalize ((((((qO.setCell (aA w.heap.size 0) (iI N)).setCell (aA w.heap.size 1) (iI I)).setCell (aA w.heap.size 2) (iI B)).setCell (aA w.heap.size 3) (.slice A len cap)).setCell (aA (w.heap.size+1) 0) (iI n')).setCell (aA (w.heap.size+1) 1) (.slice E' l' c'))=W2 at*
  obtain ⟨⟨q0,q1,q2,q3⟩,-⟩:=dJ e0;obtain ⟨⟨p0,p1⟩,-⟩:=gg e1;clear ij;go_wp2
  exact bJ (v:=.tuple #[.agg #[iI N,iI I,iI B,.slice A len cap],.agg #[iI n',.slice E' l' c'],iI z]) ri rfl ⟨N,I,B,A,len,cap,xs,n',E',l',c',es',z,rfl,hlen,DW,hzm,e2,e3,sj,e4⟩
 have e1b:(x==1)=false:=sU e1
 go_upto_region 8 with fail;have hlen:=Ei;have DW:=aeY;refine dt (S:=(fun W=>(W.cell? (aA s 0)=some (iI N)/\W.cell? (aA s 1)=some (iI I)/\W.cell? (aA s 2)=some (iI B)/\W.cell? (aA s 3)=some (.slice A len cap))/\W.cell? (aA q 0)=some (iI m)/\W.cell? (aA q 1)=some (.slice E l c))) af (⟨(dJ HD.u.Cr.bs).1,HD.u.Cr.bq.cell 0,HD.u.Cr.bq.cell 1⟩) (fun aEQ=>?_);refine tq 0 ?_;refine tq 1 ?_;refine tq 2 ?_;refine o1 3 fun K hK=>?_
 go_simp;have Ky:=hY (HD.u.ext (((xZ _).alloc (cO #[iI 0,iI 0,iI 1,iI 1,iI 2] 3)).drew));refine ov hK ⟨(dJ Ky.u.bs).1,Ky.u.bq.cell 0,Ky.u.bq.cell 1⟩ fun aEQ=>?_
 refine o1 4 fun K hK=>?_
 go_simp;refine (dY g _ 5 _ [0,0,1,1,2] _ Ky.u.cu ((eC _ _ _ _ 5 1 _ rfl rfl rfl).ext (xZ _).drew) rh aa).mono ?_;rintro e qO ⟨z,rfl,hz,EF,wF⟩;have hzm:0<=z/\z<=2:=fS
 have ij:=hY (Ky.u.grown wF EF);clear Ky EF wF hz;refine ov hK ⟨(dJ ij.u.bs).1,ij.u.bq.cell 0,ij.u.bq.cell 1⟩ fun aEQ=>?_
 obtain ⟨⟨a0,a1,a2,a3⟩,y0,y1,y2,y3⟩:=dJ ij.u.r0;obtain ⟨⟨b0,b1⟩,z0,z1⟩:=gg ij.u.r1;have fA:=ij.u.gs;have k0:w.heap.size≠s/\w.heap.size≠q/\w.heap.size+1≠s/\w.heap.size+1≠q:=aa
 refine o1 5 fun K hK=>?_
 go_simp;have f1:au ((((qO.setCell (aA w.heap.size 0) (iI N)).setCell (aA w.heap.size 1) (iI I)).setCell (aA w.heap.size 2) (iI B)).setCell (aA w.heap.size 3) (.slice A len cap)) s 60 #[iI N,iI I,iI B,.slice A len cap]:=xo ij.u.bs k0.1.symm _ _ _ _;have f2:au ((((qO.setCell (aA w.heap.size 0) (iI N)).setCell (aA w.heap.size 1) (iI I)).setCell (aA w.heap.size 2) (iI B)).setCell (aA w.heap.size 3) (.slice A len cap)) q 63 #[iI m,.slice E l c]:=xo ij.u.bq k0.2.1.symm _ _ _ _;have f3:au ((((qO.setCell (aA w.heap.size 0) (iI N)).setCell (aA w.heap.size 1) (iI I)).setCell (aA w.heap.size 2) (iI B)).setCell (aA w.heap.size 3) (.slice A len cap)) (w.heap.size+1) 63 jC:=xo ij.u.r1 aa _ _ _ _;refine ov hK ⟨(dJ f1).1,f2.cell 0,f2.cell 1⟩ fun aEQ=>?_
 obtain ⟨⟨b0,b1⟩,z0,z1⟩:=gg f3;refine o1 6 fun K hK=>?_
 go_simp;have f4:au ((((((qO.setCell (aA w.heap.size 0) (iI N)).setCell (aA w.heap.size 1) (iI I)).setCell (aA w.heap.size 2) (iI B)).setCell (aA w.heap.size 3) (.slice A len cap)).setCell (aA (w.heap.size+1) 0) (iI m)).setCell (aA (w.heap.size+1) 1) (.slice E l c)) s 60 #[iI N,iI I,iI B,.slice A len cap]:=(f1.cB (p:=(aA (w.heap.size+1) 0)) k0.2.2.1.symm _).cB (p:=(aA (w.heap.size+1) 1)) k0.2.2.1.symm _;have f5:au ((((((qO.setCell (aA w.heap.size 0) (iI N)).setCell (aA w.heap.size 1) (iI I)).setCell (aA w.heap.size 2) (iI B)).setCell (aA w.heap.size 3) (.slice A len cap)).setCell (aA (w.heap.size+1) 0) (iI m)).setCell (aA (w.heap.size+1) 1) (.slice E l c)) q 63 #[iI m,.slice E l c]:=(f2.cB (p:=(aA (w.heap.size+1) 0)) k0.2.2.2.symm _).cB (p:=(aA (w.heap.size+1) 1)) k0.2.2.2.symm _;refine hK.out _ _ ⟨(dJ f4).1,f5.cell 0,f5.cell 1⟩ (fun aEQ=>?_);clear hK K f1 f2 f3 f4 f5
 (try refine pt ?_)
 refine tq 7 ?_;refine dn ?_;clear aEQ a0 a1 a2 a3 y0 y1 y2 y3 b0 b1 z0 z1 fA k0;obtain ⟨e0,e1,e2,e3,e4⟩:=ij.u.fin;have sj:=ij.u.ok;unfold SV at e0 e1 e2 e3 e4;generalize ((((((qO.setCell (aA w.heap.size 0) (iI N)).setCell (aA w.heap.size 1) (iI I)).setCell (aA w.heap.size 2) (iI B)).setCell (aA w.heap.size 3) (.slice A len cap)).setCell (aA (w.heap.size+1) 0) (iI m)).setCell (aA (w.heap.size+1) 1) (.slice E l c))=W2 at*
 obtain ⟨⟨q0,q1,q2,q3⟩,-⟩:=dJ e0;obtain ⟨⟨p0,p1⟩,-⟩:=gg e1;clear ij;go_wp2
 exact bJ (v:=.tuple #[.agg #[iI N,iI I,iI B,.slice A len cap],.agg #[iI m,.slice E l c],iI z]) ri rfl ⟨N,I,B,A,len,cap,xs,m,E,l,c,es,z,rfl,hlen,DW,hzm,e2,e3,sj,e4⟩
end Go.Proofs.YtodhjgngkkcjgaaGreatDoor
