import Derived.Test.YtiajdbllccmokaaGreatDoorXw
import Derived.Test.YtiajdbllccmokaaGreatDoorXy
import Derived.Test.YtiajdbllccmokaaGreatDoorXr
namespace Go.Proofs.YtiajdbllccmokaaGreatDoor
open Go.ChangeShapes Go.WideShapes Go.ChangeAt Go.RowKit Go.Deep Go.Proofs.Tryz
set_option linter.unusedVariables false
set_option linter.unusedSimpArgs false
set_option maxRecDepth 100000
set_option maxHeartbeats 16000000
theorem AI (A:OA) (m c:Nat) (n:Int) (rs:List Pa) (w:World) (h:Rd w w.heap.size 4 A m (aV rs)) (hm:m<=1800000000000):
  Calls prog 143 #[.agg #[iI n,.slice A m c]] w fun e w'=>(∃A' c',e=.returned (.agg #[iI n,.slice A' m c'])/\w'.ownsRow w.heap.size 187 4 (.slice A' m c') m (aV rs))/\Ext w w':=by
 have iL:Hid (Rd ((w.alloc (cO #[iI n,.slice A m c] 147)).alloc (cO jC 147)) ((w.alloc (cO #[iI n,.slice A m c] 147)).alloc (cO jC 147)).heap.size 4 A m (aV rs)):=h.ext (((xZ w).alloc _).alloc _);have kj:Hid (Ext w ((w.alloc (cO #[iI n,.slice A m c] 147)).alloc (cO jC 147))):=((xZ w).alloc _).alloc _;have eG:Hid (ay ((w.alloc (cO #[iI n,.slice A m c] 147)).alloc (cO jC 147)) w.heap.size 147 #[iI n,.slice A m c]):=(ay.new w _ _).alloc _;have ie:Hid (ay ((w.alloc (cO #[iI n,.slice A m c] 147)).alloc (cO jC 147)) (w.heap.size+1) 147 jC):=ay.newAt ag;have Jy:w.heap.size+1<((w.alloc (cO #[iI n,.slice A m c] 147)).alloc (cO jC 147)).heap.size:=ag
 clear h;go_enter func143,ntmps143;go_upto_region 1 with fail;generalize ((w.alloc (cO #[iI n,.slice A m c] 147)).alloc (cO jC 147))=W2 at*
 obtain ⟨⟨a0,a1⟩,-⟩:=bt eG.u;obtain ⟨⟨b0,b1⟩,z0,z1⟩:=bt ie.u;have a1':(W2.alloc (cO #[] 187)).cell? (aA w.z 1)=some (.slice A m c):=(eG.u.alloc _).cell 1;have a0':(W2.alloc (cO #[] 187)).cell? (aA w.z 0)=some (iI n):=(eG.u.alloc _).cell 0;go_wp2
 go_region_law (first
  |(refine Cu (w0:=W2) ah _ _ ah _ 0 [] ah (aq (aJ W2 _ 187 4 (xZ W2)) (xZ _).drew) ((xZ W2).alloc _).drew A m c rs ah (iL.u.ext ((xZ W2).alloc _).drew) aa ?_;intro v5 w5 jM cN xV Qh;obtain ⟨A5,c5,rfl,Fx⟩:=au jM;have iK:=hY jM;have iN:=hY cN;clear jM xV Qh Fx;have i0:w5.cell? (aA w.z 0)=some (iI n):=(eG.u.ext iN.u).cell 0;have k0:w5.cell? (aA (w.z+1) 0)=some (iI 0):=(ie.u.ext iN.u).cell 0;have k1:w5.cell? (aA (w.z+1) 1)=some (nS):=(ie.u.ext iN.u).cell 1;have j0:w5.frozen? (aA (w.z+1) 0)=false:=(ie.u.ext iN.u).frozen 0;have j1:w5.frozen? (aA (w.z+1) 1)=false:=(ie.u.ext iN.u).frozen 1))
 all_goals
  clear i0 k0 k1 j0 j1;have km:Hid ((dN w5 (w.heap.size+1) (iI n) (.slice A5 m c5)).ownsRow w.heap.size 187 4 (.slice A5 m c5) m (aV rs)):=by
   have h1:=bk (bk iK.u (p:=(aA (w.heap.size+1) 0)) Jy (iI n)) (p:=(aA (w.heap.size+1) 1)) Jy (.slice A5 m c5);rw [lM,lN] at h1
   exact aC h1 aa
  have dG:Hid (Ext w (dN w5 (w.heap.size+1) (iI n) (.slice A5 m c5))):=dH (kj.u.trans iN.u) aa _ _;have dL:Hid (ay (dN w5 (w.heap.size+1) (iI n) (.slice A5 m c5)) (w.heap.size+1) 147 #[iI n,.slice A5 m c5]):=(ie.u.ext iN.u).dN _ _;go_wp2;refine bR (v:=.agg #[iI n,.slice A5 m c5]) ?_ rfl ?_
  rotate_left
  ·exact ⟨⟨A5,c5,rfl,km.u⟩,dG.u⟩
  ·exact ajs rfl dL.u _ af rfl
theorem abz {n:Int} {rs:List Pa} (h:mB n rs=true):1<=n/\n<=4/\(rs.length:Int)=2*n:=by
 refine ⟨?_,?_,?_⟩
 ·by_cases h1:n<1
  ·rw [Oe (Or.inl h1)] at h;cases h
  ·omega
 ·by_cases h1:4<n
  ·rw [Oe (Or.inr h1)] at h;cases h
  ·omega
 ·by_cases h1:((rs.length:Int)==2*n)=false
  ·rw [Vw h1] at h;cases h
  ·simpa using h1
def GsB (w0:World) (bf:Nat) (e:Ending) (w:World):Prop:=∃L len cap gs b,e=.returned (.tuple #[.slice L len cap,.bool b])/\w.ownsRow w0.heap.size 54 4 (.slice L len cap) len (ak gs)/\len<=bf/\∀x∈gs,x.k<=11
theorem yu (A:OA) (c:Nat) (n:Int) (rs:List Pa) (w:World) (h:Rd w w.heap.size 4 A rs.length (aV rs)) (hl:rs.length<=1800000000000) (yc:rs.length<=c):
  Calls prog 129 #[.agg #[iI n,.slice A rs.length c]] w fun e w'=>GsB w 100 e w'/\Ext w w':=by
 go_enter func129,ntmps129;go_wp2_with fail;refine (cC A c n rs _ (h.ext aD) aa yc).mono ?_;rintro e w1 ⟨rfl,aS⟩;have ie:Hid (ay w1 w.heap.size 147 #[iI n,.slice A rs.length c]):=(ay.new w _ _).ext aS;have dk:Hid (Ext w w1):=Ext.trans aD aS;clear aS
 cases hv:mB n rs
 ·have ho:=aJ w1 w1 54 4 (xZ _);have HE:Hid ((w1.alloc (cO #[] 54)).ownsRow w.heap.size 54 4 (.slice (some ⟨w1.heap.size,0,none⟩) 0 0) 0 (ak [])):=aC ho dk.u.size;clear ho;go_wp2;go_ret2
  exact ⟨⟨_,_,_,_,_,rfl,HE.u,aa,fun x h9=>(by cases h9)⟩,dk.u.alloc _⟩
 obtain ⟨hv1,hv4,hvl⟩:=abz hv;clear hv;obtain ⟨k,rfl⟩:=lD (aa:0<=n);obtain ⟨m,hm⟩:=ey (rs.length);have mI:=hY (h.ext dk.u);clear h;rw [<-hm] at hvl hl yc ie mI |-;have HN:Hid (1<=k/\k<=4/\m=2*k):=⟨aa,aa,aa⟩;have HM:=hY hm;clear hm hvl yc hv1 hv4 hl;obtain ⟨⟨b0,b1⟩,-⟩:=bt ie.u;go_wp2_with fail;refine (AI A m c k rs _ mI.u (oM HN.u)).mono ?_;rintro e w2 ⟨⟨A2,c2,rfl,ep⟩,bH⟩;clear b0 b1;have HWX:Hid (yo w2 (w2.alloc (cO #[iI k,.slice A2 m c2,nS] 195)) w2.heap.size k m (24*0)):=by
  refine ⟨A2,c2,rs,none,0,0,[],⟨ay.new _ _ _,(Rd.own ep).ext ((xZ _).alloc _),⟨ag,.inl ⟨rfl,rfl⟩⟩,(PB.own ep).ext ((xZ _).alloc _),⟨HM.u.symm,Qu ep,oM HN.u⟩,(xZ _).alloc _,lI _,fun x h9=>(by cases h9)⟩,lJ _⟩
 have fV:Hid (ay w2 w.heap.size 147 #[iI k,.slice A m c]):=ie.u.ext bH;have kj:Hid (Ext w w2):=dk.u.trans bH;clear ep bH ie dk;have b0:=fV.u.ck 0;have b1:=fV.u.ck 1;go_upto_region 4 with fail;clear b0 b1;generalize w2.alloc (cO #[iI k,.slice A2 m c2,nS] 195)=w3 at*
 generalize w2.heap.size=q at*
 go_wp2
 go_loopw [5] (fun iv wr=>∃i:Nat,iv=iI i/\i<=k/\Hid (yo w2 wr q k m (24*i))) (fun iv _=>k - (intOf iv).toNat)
 case atStart=>exact ⟨0,rfl,lJ _,HWX⟩
 case round=>
  obtain ⟨i,rfl,Fz,HW⟩:=hrel;clear HWX;have b0:=(fV.u.ext HW.u.x).ck 0
  by_cases bh:i<k
  ·have bS:=hY bh;have eM:=wA i (oM HN.u);have iG:=wB i (oM HN.u);go_wp2_with fail;refine (JC w2 _ q k m i _ HW.u ⟨HN.u.1,HN.u.2.1⟩ HN.u.2.2 bh (oM HN.u)).mono ?_;rintro e w5 ⟨rfl,hw5⟩;clear b0;go_wp2_with fail;refine (Ga w2 _ q k m i _ hw5 ⟨HN.u.1,HN.u.2.1⟩ HN.u.2.2 bh (oM HN.u)).mono ?_;rintro e w6 ⟨rfl,hw6⟩;have HW6:Hid (yo w2 w6 q k m (24*(i+1))):=hw6.more aa;clear hw5 hw6;go_wp2;go_roundw
   case rel=>exact ⟨i+1,by first|rfl|rw [eM]|rw [iG],oM bS.u,HW6⟩
   case measure=>simp [intOf,iG];have:=bS.u;omega
  ·obtain ⟨A5,c5,rs5,L,len,cap,gs,hW,hlen⟩:=HW.u;have Jr:=hY hW;clear hW;have p2':(wr.alloc (cO #[] 54)).cell? (aA q 2)=some (.slice L len cap):=(Jr.u.b.alloc _).cell 2;have HO:Hid (Rd wr wr.heap.size 4 L len (ak gs)):=Rd.own Jr.u.o;have AF:len<=100:=oM HN.u
   go_wp2_with (at_builtin;refine cU (w0:=w2) rfl _ _ rfl _ 0 [] rfl (aJ w2 wr 54 4 Jr.u.x) (Jr.u.x.alloc _) L len cap gs rfl (HO.u.ext ((xZ _).alloc _)) aa ?_;intro v9 w9 g1 g2 g3 g4)
   obtain ⟨A9,c9,rfl,xr⟩:=au g1;rw [lM,lN] at g1;rw [lM];have TY:=hY (aC g1 kj.u.size);have mJ:=hY (kj.u.trans g2);clear g1 g2 g3 g4 xr;go_wp2;go_ret2
   exact ⟨⟨_,_,_,_,_,rfl,TY.u,aa,Jr.u.kk⟩,mJ.u⟩
theorem rR (A:OA) (c:Nat) (n:Int) (rs:List Pa) (w:World) (h:Rd w w.heap.size 4 A rs.length (aV rs)) (hl:rs.length<=1800000000000) (yc:rs.length<=c):
  Calls prog 112 #[.agg #[iI n,.slice A rs.length c]] w fun e w'=>GsB w 100 e w'/\Ext w w':=by
 go_enter func112,ntmps112;go_wp2_with fail;refine (yu A c n rs _ (h.ext aD) hl yc).mono ?_;rintro e w1 ⟨⟨L,len,cap,gs,b,rfl,eF,nQ,eM⟩,aS⟩;have dk:Hid (Ext w w1):=Ext.trans aD aS;clear aS h;go_wp2_with fail;refine (sS L len cap gs _ (Rd.own eF) aa).mono ?_;rintro e w2 ⟨v,rfl,ho,bH⟩;obtain ⟨L2,c2,rfl,mg⟩:=au ho;have rP:Hid (w2.ownsRow w.heap.size 54 4 (.slice L2 len c2) len (ak (gG gs))):=aC ho dk.u.size;clear ho mg eF;go_wp2;go_ret2
 exact ⟨⟨_,_,_,_,_,rfl,rP.u,nQ,fun x hx=>by
  obtain ⟨y,hy,rfl⟩:=zM.1 hx;have h9:=eM y (List.mem_reverse.1 hy);show (if y.k=5 then 6 else if y.k=6 then 5 else if y.k=7 then 8 else if y.k=8 then 7 else y.k)<=(11:Int)
  split<;>(try split)<;>(try split)<;>(try split)<;>omega⟩,dk.u.trans bH⟩
theorem qI:(prog.info? 50).map (·.size)=some 2:=af
theorem Me:(50:Nat)≠54:=ae
theorem Mf {w:World} {r T i:Nat} {cs:Array Value} {B e size n:Nat} {v:Value} {xs:List Value} (ho:w.ownsRow B e size v n xs) (h:ay w r T cs) (hne:T≠e) (u:Value):(w.setCell (aA r i) u).ownsRow B e size v n xs:=by
 refine ho.kept (row:=some r) (cB (jN w (some r)) i u) ?_
 cases hv:v.ownBlock with
 |none=>exact .inl rfl
 |some k=>exact .inr (fun e1=>BD h ho hne k hv oL)
theorem SU {w:World} {r T:Nat} {z0 z1:Value} {B e size n:Nat} {v:Value} {xs:List Value} (ho:w.ownsRow B e size v n xs) (h:ay w r T #[z0,z1]) (hne:T≠e) (a b:Value):(dN w r a b).ownsRow B e size v n xs:=
 Mf (Mf ho h hne a) (h.ba 0 a) hne b
def CiB (w0:World) (bf:Nat) (e:Ending) (w:World):Prop:=∃(N:Int) (L:OA) (len cap:Nat) (gs:List Gt) (b:Bool),e=.returned (.tuple #[.agg #[iI N,.slice L len cap],.bool b])/\w.ownsRow w0.heap.size 54 4 (.slice L len cap) len (ak gs)/\len<=bf/\∀x∈gs,x.k<=11
theorem Eu {P:Prop} (h:P:=by
 obtain ⟨⟨a0,a1⟩,y0,y1⟩:=bt FC.u.2;go_wp2;refine bR (v:=.tuple #[.agg jC,.bool false]) ?_ rfl ?_
 rotate_left
 ·exact ⟨⟨0,none,0,0,[],false,rfl,⟨ag,.inl ⟨rfl,rfl⟩⟩,aa,fun x h9=>(by cases h9)⟩,(TR.u _ (xZ _)).u.2⟩
 ·exact bF rfl _ _ _ _ _ _ _ rfl rfl (TR.u _ (xZ _)).u.1 underlying50 rfl qI):P:=h
theorem pj (A:OA) (c:Nat) (n:Int) (gs:List Gt) (w:World) (h:Rd w w.heap.size 4 A gs.length (ak gs)) (hl:gs.length<=2000000000000):
  Calls prog 95 #[.agg #[iI n,.slice A gs.length c]] w fun e w'=>CiB w 100 e w'/\Ext w w':=by
 go_enter func95,ntmps95;go_wp2_with fail;refine (jy A c n gs _ (h.ext aD) hl).mono ?_;rintro e w1 ⟨ht,aS⟩;have hle:∃(m:Int) (B:OA) (l d:Nat) (rs:List Pa) (b:Bool),e=.returned (.tuple #[.agg #[iI m,.slice B l d],.bool b])/\Hid (Rd w1 w1.heap.size 4 B l (aV rs)/\rs.length=l/\l<=d/\l<=8):=by
  cases hT:wk n gs with
  |none=>
   rw [hT] at ht
   exact ⟨0,none,0,0,[],false,ht,⟨rfl,fun h0=>absurd h0 aa⟩,rfl,lI _,aa⟩
  |some rs=>
   rw [hT] at ht;obtain ⟨v,he,B,d,rfl,hr,hc⟩:=ht;have h8:rs.length<=8:=by
    cases hv:MV n gs
    ·rw [Qw hv] at hT;cases hT
    ·rw [Dz hv] at hT;have hb:=Wj hv;obtain ⟨k,rfl⟩:=lD (aa:0<=n);have h2:∀(gs:List Gt) (Su rs:List Pa),gs.foldl (fun t g=>t.bind fun rs=>fa k rs g) (some Su)=some rs->rs.length=Su.length:=by
      intro gs
      induction gs with
      |nil=>intro Su rs h;cases h;rfl
      |cons g r ih=>
       intro Su rs h;rw [PI] at h
       cases h3:fa k Su g with
       |none=>rw [show (some Su).bind (fun rs=>fa k rs g)=none from h3,DA] at h;cases h
       |some r1=>rw [show (some Su).bind (fun rs=>fa k rs g)=some r1 from h3] at h;rw [ih r1 rs h,DB h3]
     have h3:=h2 gs _ rs hT;rw [h3,Qx,uG];omega
   exact ⟨n,B,rs.length,d,rs,true,he,hr,rfl,hc,h8⟩
 obtain ⟨m,B,l,d,rs,b,rfl,HR⟩:=hle;have eG:Hid (ay w1 w.heap.size 50 #[iI n,.slice A gs.length c]/\ay w1 (w.heap.size+1) 50 jC):=⟨((ay.new w _ _).alloc _).ext aS,(ay.newAt (b:=w.heap.size+1) ag).ext aS⟩;have dk:Hid (Ext w w1/\w.heap.size+2<=w1.heap.size):=⟨Ext.trans aD aS,gl⟩;obtain ⟨la,TT⟩:=ey (gs.length);rw [<-TT] at eG |-;clear aS ht h TT hl;have HS:Hid (ay (w1.alloc (cO #[iI m,.slice B l d] 147)) w1.heap.size 147 #[iI m,.slice B l d]/\Ext w1 (w1.alloc (cO #[iI m,.slice B l d] 147))/\w1.heap.size<(w1.alloc (cO #[iI m,.slice B l d] 147)).heap.size):=⟨ay.new _ _ _,(xZ _).alloc _,ag⟩;have iL:Hid (Rd (w1.alloc (cO #[iI m,.slice B l d] 147)) (w1.alloc (cO #[iI m,.slice B l d] 147)).heap.size 4 B l (aV rs)):=HR.u.1.ext ((xZ _).alloc _);go_upto_region 2 with fail;generalize w1.alloc (cO #[iI m,.slice B l d] 147)=w2 at*
 generalize w1.heap.size=q at*
 obtain ⟨⟨s0,s1⟩,-⟩:=bt HS.u.1;go_wp2_with fail
 refine ((show Calls prog 112 #[.agg #[iI m,.slice B l d]] w2 (fun e w'=>GsB w2 100 e w'/\Ext w2 w') by
  obtain ⟨h1,h2,h3,h4⟩:=HR.u;have:=rR B d m rs w2 (by rw [h2];exact iL.u) aa aa;rw [h2] at this
  exact this)).mono ?_
 rintro e w3 ⟨⟨L,len,cap,hs,bb,rfl,ho,hlen,OC⟩,bT⟩;have HO:=hY ho;have iM:Hid (Ext w w3):=dk.u.1.trans (HS.u.2.1.trans bT);have lq:Hid (ay w3 w.heap.size 50 #[iI n,.slice A la c]/\ay w3 (w.heap.size+1) 50 jC):=⟨eG.u.1.ext (HS.u.2.1.trans bT),eG.u.2.ext (HS.u.2.1.trans bT)⟩;have HSZ:Hid (w.heap.size+2<=q/\q<w2.heap.size/\w2.heap.size<=w3.heap.size):=⟨dk.u.2,HS.u.2.2,bT.size⟩;clear eG dk HS HR iL bT ho s0 s1;obtain ⟨⟨b0,b1⟩,-⟩:=bt lq.u.1;go_upto_region 4 with fail;have FC:Hid (ay (w3.alloc (cO #[iI n,.slice L len cap] 50)) w3.heap.size 50 #[iI n,.slice L len cap]/\ay (w3.alloc (cO #[iI n,.slice L len cap] 50)) (w.heap.size+1) 50 jC):=⟨ay.new _ _ _,lq.u.2.alloc _⟩;have nB:Hid ((w3.alloc (cO #[iI n,.slice L len cap] 50)).ownsRow w2.heap.size 54 4 (.slice L len cap) len (ak hs)):=aq HO.u ((xZ _).alloc _);have Br:Hid (Ext w (w3.alloc (cO #[iI n,.slice L len cap] 50))):=iM.u.alloc _;clear lq HO iM b0 b1;generalize w3.alloc (cO #[iI n,.slice L len cap] 50)=w4 at*
 generalize w3.heap.size=p at*
 have Dn:Hid (∀w',Ext w4 w'->(dN w' (w.heap.size+1) (iI n) (.slice L len cap)).ownsRow w.heap.size 54 4 (.slice L len cap) len (ak hs)):=fun w' hx=>
  aC (SU (aq nB.u hx) (FC.u.2.ext hx) Me _ _) (oM HSZ.u)
 have hno:∀w',Ext w4 w'->Hid (ay (dN w' (w.heap.size+1) (iI 0) (nS)) (w.heap.size+1) 50 jC/\Ext w (dN w' (w.heap.size+1) (iI 0) (nS))):=fun w' hx=>⟨(FC.u.2.ext hx).dN _ _,dH (Br.u.trans hx) aa _ _⟩
 have TR:=hY hno;clear hno
 cases b
 ·exact Eu
 cases bb
 ·exact Eu
 obtain ⟨⟨c0,c1⟩,-⟩:=bt FC.u.1;go_wp2_with fail
 refine ((show ∃ok,Calls prog 113 #[.agg #[iI n,.slice L len cap]] w4 (fun e w'=>e=.returned (.bool ok)/\Ext w4 w') by
  have hr:=Rd.own nB.u;have e:=hr.len Gt.aE aa;rw [<-e] at hr |-
  exact ⟨_,jw L cap n hs w4 hr aa⟩)).elim fun ok qz=>qz.mono ?_
 rintro e w5 ⟨rfl,cN⟩;have iN:=hY cN;clear cN c0 c1;obtain ⟨⟨c0,c1⟩,-⟩:=bt (FC.u.1.ext iN.u);obtain ⟨⟨a0,a1⟩,y0,y1⟩:=bt (FC.u.2.ext iN.u)
 cases ok
 ·go_wp2;refine bR (v:=.tuple #[.agg jC,.bool false]) ?_ rfl ?_
  rotate_left
  ·exact ⟨⟨0,none,0,0,[],false,rfl,⟨ag,.inl ⟨rfl,rfl⟩⟩,aa,fun x h9=>(by cases h9)⟩,(TR.u _ iN.u).u.2⟩
  ·exact bF rfl _ _ _ _ _ _ _ rfl rfl (TR.u _ iN.u).u.1 underlying50 rfl qI
 ·have dL:Hid (ay (dN w5 (w.heap.size+1) (iI n) (.slice L len cap)) (w.heap.size+1) 50 #[iI n,.slice L len cap]):=(FC.u.2.ext iN.u).dN _ _;have dG:Hid (Ext w (dN w5 (w.heap.size+1) (iI n) (.slice L len cap))):=dH (Br.u.trans iN.u) aa _ _;have km:=hY (Dn.u _ iN.u);go_wp2;refine bR (v:=.tuple #[.agg #[iI n,.slice L len cap],.bool true]) ?_ rfl ?_
  rotate_left
  ·exact ⟨⟨n,L,len,cap,hs,true,rfl,km.u,hlen,OC⟩,dG.u⟩
  ·exact bF rfl _ _ _ _ _ _ _ rfl rfl dL.u underlying50 rfl qI
def rT (x lo hi:Int):Bool:=decide (lo<=x) && decide (x<=hi)
theorem zy {x lo hi:Int} (h:x<lo\/hi<x):rT x lo hi=false:=by
 unfold rT;rcases h with h|h
 ·rw [kP aa,js]
 ·rw [kP (p:=x<=hi) aa,fX]
theorem uf {x lo hi:Int} (h1:lo<=x) (h2:x<=hi):rT x lo hi=true:=by
 unfold rT;rw [xC h1,xC h2,mP]
def Oq.g1 (o:Oq):Oq:=⟨o.k,o.g,0,0,o.cond⟩
def Oq.g2 (o:Oq):Oq:=⟨o.k,⟨0,0,0,0⟩,o.q,o.bit,0⟩
def Oq.g3 (o:Oq):Oq:=⟨o.k,⟨0,0,0,0⟩,o.q,0,0⟩
def sA (o:Oq) (n bits:Int):Bool:=
 rT n 1 4 && rT bits 0 3 && (if o.k=1 then Gm o o.g1 && vg o.g n && rT o.cond 0 bits
  else if o.k=2 then Gm o o.g2 && rT o.q 0 (n - 1) && rT o.bit 0 (bits - 1)
  else if o.k=3 then Gm o o.g3 && rT o.q 0 (n - 1) else false)
theorem aj5 {o:Oq} {n bits:Int} (h:rT n 1 4=false):sA o n bits=false:=by unfold sA;rw [h,js,js]
theorem aj6 {o:Oq} {n bits:Int} (h:rT bits 0 3=false):sA o n bits=false:=by unfold sA;rw [h,fX,js]
theorem acr {o:Oq} {n bits:Int} (h:rT n 1 4=true) (h':rT bits 0 3=true) (hk:o.k=1):sA o n bits=(Gm o o.g1 && vg o.g n && rT o.cond 0 bits):=by unfold sA;rw [h,h',aX hk];rfl
theorem acv {o:Oq} {n bits:Int} (h:rT n 1 4=true) (h':rT bits 0 3=true) (hk:o.k=2):sA o n bits=(Gm o o.g2 && rT o.q 0 (n - 1) && rT o.bit 0 (bits - 1)):=by unfold sA;rw [h,h',aK aa,aX hk];rfl
theorem acw {o:Oq} {n bits:Int} (h:rT n 1 4=true) (h':rT bits 0 3=true) (hk:o.k=3):sA o n bits=(Gm o o.g3 && rT o.q 0 (n - 1)):=by unfold sA;rw [h,h',aK aa,aK aa,aX hk];rfl
theorem aj7 {o:Oq} {n bits:Int} (h1:¬o.k=1) (h2:¬o.k=2) (h3:¬o.k=3):sA o n bits=false:=by unfold sA;rw [aK h1,aK h2,aK h3,fX]
theorem cE {P:Prop} (h:P:=by
 go_wp2;go_ret
 exact ⟨aT (HV.u.symm.trans (HF.u)).symm,aD⟩):P:=h
theorem Ev {P:Prop} (h:P:=by
 rintro e w1 ⟨rfl,rfl⟩;go_wp2;go_ret
 exact ⟨aT (HV.u.symm.trans (HF.u.trans (by rw [Ihq.u,Ihc.u];rfl))).symm,aD⟩):P:=h
theorem Ew {P:Prop} (h:P:=by
 rintro e w1 ⟨rfl,rfl⟩;go_wp2;go_ret
 exact ⟨aT (HV.u.symm.trans (HF.u.trans Ihc.u)).symm,aD⟩):P:=h
theorem Ex {P:Prop} (h:P:=by
 rintro e w1 ⟨rfl,rfl⟩;go_wp2;go_ret
 exact ⟨aT (HV.u.symm.trans (HF.u.trans Ihq.u)).symm,aD⟩):P:=h
theorem wK (o:Oq) (n bits:Int) (w:World):
  Calls prog 63 #[o.val,iI n,iI bits] w fun e w'=>e=.returned (.bool (sA o n bits))/\Ext w w':=by
 obtain ⟨k,⟨gk,ga,gb,gc⟩,q,bit,cond⟩:=o;generalize hV:sA (⟨k,⟨gk,ga,gb,gc⟩,q,bit,cond⟩:Oq) n bits=V;have HV:=hY hV;clear hV;show Calls prog 63 #[.agg #[iI k,iI gk,iI ga,iI gb,iI gc,iI q,iI bit,iI cond],iI n,iI bits] w _;go_enter func63,ntmps63
 by_cases hn:n<1\/4<n
 ·have Hhn:=hY hn;have Ihn:=hY (zy hn);clear hn;go_wp2_with fail;refine (bI _ _ _ _ Hhn.u).mono ?_;rintro e w1 ⟨rfl,rfl⟩;have HF:=hY (aj5 (o:=(⟨k,⟨gk,ga,gb,gc⟩,q,bit,cond⟩:Oq)) (bits:=bits) Ihn.u)
  exact cE
 have Ihn:=hY (uf (show 1<=n by omega) (show n<=4 by omega));have Jhn:=hY (show 1<=n/\n<=4 from ⟨aa,aa⟩)
 by_cases hb:bits<0\/3<bits
 ·have Hhb:=hY hb;have Ihb:=hY (zy hb);clear hb;go_wp2_with fail;refine (aF _ _ _ _ Jhn.u.1 Jhn.u.2).mono ?_;rintro e w1 ⟨rfl,rfl⟩;go_wp2_with fail;refine (bI _ _ _ _ Hhb.u).mono ?_;rintro e w1 ⟨rfl,rfl⟩;have HF:=hY (aj6 (o:=(⟨k,⟨gk,ga,gb,gc⟩,q,bit,cond⟩:Oq)) (n:=n) Ihb.u)
  exact cE
 have Ihb:=hY (uf (show 0<=bits by omega) (show bits<=3 by omega));have Jhb:=hY (show 0<=bits/\bits<=3 from ⟨aa,aa⟩);have mS:0<=bits:=Jhb.u.1;have vG:bits<=3:=Jhb.u.2;have nM:1<=n:=Jhn.u.1;have GC:n<=4:=Jhn.u.2;clear hn hb;go_wp2_with fail;refine (aF _ _ _ _ nM GC).mono ?_;rintro e w1 ⟨rfl,rfl⟩;go_wp2_with fail;refine (aF _ _ _ _ mS vG).mono ?_;rintro e w1 ⟨rfl,rfl⟩
 by_cases eM:k=1
 ·subst eM
  by_cases hzq:q=0
  ·subst hzq
   by_cases Ey:bit=0
   ·subst Ey;have HR:=hY (acr (o:=(⟨1,⟨gk,ga,gb,gc⟩,0,0,cond⟩:Oq)) Ihn.u Ihb.u rfl);go_wp2_with fail;refine (bj ⟨gk,ga,gb,gc⟩ n _).mono ?_;rintro e w1 ⟨rfl,ki⟩;have hB:ay w1 w.heap.size 56 #[iI 1,iI gk,iI ga,iI gb,iI gc,iI 0,iI 0,iI cond]:=(ay.new w _ _).ext ki;have b7:=hB.ck 7;have hx:Ext w w1:=Ext.trans aD ki
    cases hv:vg ⟨gk,ga,gb,gc⟩ n
    ·have HF:Hid (sA (⟨1,⟨gk,ga,gb,gc⟩,0,0,cond⟩:Oq) n bits=false):=uO
     exact cE
    ·have HF:Hid (sA (⟨1,⟨gk,ga,gb,gc⟩,0,0,cond⟩:Oq) n bits=rT cond 0 bits):=uO
     by_cases hc:cond<0\/bits<cond
     ·have Hhc:=hY hc;have Ihc:=hY (zy hc);clear hc;go_wp2_with fail;refine (bI _ _ _ _ Hhc.u).mono ?_
      exact Ew
     ·have Ihc:=hY (uf (show 0<=cond by omega) (show cond<=bits by omega));have Jhc:=hY (show 0<=cond/\cond<=bits from ⟨aa,aa⟩);go_wp2_with fail;refine (aF _ _ _ _ Jhc.u.1 Jhc.u.2).mono ?_
      exact Ew
   ·have FF:(bit==0)=false:=by simp [Ey]
    have HF:Hid (sA (⟨1,⟨gk,ga,gb,gc⟩,0,bit,cond⟩:Oq) n bits=false):=uP
    clear Ey
    exact cE
  ·have FF:(q==0)=false:=by simp [hzq]
   have HF:Hid (sA (⟨1,⟨gk,ga,gb,gc⟩,q,bit,cond⟩:Oq) n bits=false):=uP
   clear hzq
   exact cE
 have awe:(k==1)=false:=by simp [eM]
 by_cases iG:k=2
 ·subst iG
  by_cases OM:gk=0
  ·subst OM
   by_cases OO:ga=0
   ·subst OO
    by_cases OP:gb=0
    ·subst OP
     by_cases OS:gc=0
     ·subst OS
      by_cases wM:cond=0
      ·subst wM;have HR:=hY (acv (o:=(⟨2,⟨0,0,0,0⟩,q,bit,0⟩:Oq)) Ihn.u Ihb.u rfl);have HF:Hid (sA (⟨2,⟨0,0,0,0⟩,q,bit,0⟩:Oq) n bits=(rT q 0 (n - 1) && rT bit 0 (bits - 1))):=by unfold Hid;rw [HR.u];simp [Gm,Gn,Oq.g2]
       by_cases hq:q<0\/n - 1<q
       ·have Hhq:=hY hq;have Ihq:=hY (zy hq);clear hq;go_wp2_with fail;refine (bI _ _ _ _ Hhq.u).mono ?_;rintro e w1 ⟨rfl,rfl⟩;go_wp2;go_ret
        exact ⟨aT (HV.u.symm.trans (HF.u.trans (by rw [Ihq.u];rfl))).symm,aD⟩
       ·have Ihq:=hY (uf (show 0<=q by omega) (show q<=n - 1 by omega));have Jhq:=hY (show 0<=q/\q<=n - 1 from ⟨aa,aa⟩);go_wp2_with fail;refine (aF _ _ _ _ Jhq.u.1 Jhq.u.2).mono ?_;rintro e w1 ⟨rfl,rfl⟩
        by_cases hc:bit<0\/bits - 1<bit
        ·have Hhc:=hY hc;have Ihc:=hY (zy hc);clear hc;go_wp2_with fail;refine (bI _ _ _ _ Hhc.u).mono ?_
         exact Ev
        ·have Ihc:=hY (uf (show 0<=bit by omega) (show bit<=bits - 1 by omega));have Jhc:=hY (show 0<=bit/\bit<=bits - 1 from ⟨aa,aa⟩);go_wp2_with fail;refine (aF _ _ _ _ Jhc.u.1 Jhc.u.2).mono ?_
         exact Ev
      ·have FF:(cond==0)=false:=by simp [wM]
       have HF:Hid (sA (⟨2,⟨0,0,0,0⟩,q,bit,cond⟩:Oq) n bits=false):=iQ
       clear wM
       exact cE
     ·have FF:(gc==0)=false:=by simp [OS]
      have HF:Hid (sA (⟨2,⟨0,0,0,gc⟩,q,bit,cond⟩:Oq) n bits=false):=iQ
      clear OS
      exact cE
    ·have FF:(gb==0)=false:=by simp [OP]
     have HF:Hid (sA (⟨2,⟨0,0,gb,gc⟩,q,bit,cond⟩:Oq) n bits=false):=iQ
     clear OP
     exact cE
   ·have FF:(ga==0)=false:=by simp [OO]
    have HF:Hid (sA (⟨2,⟨0,ga,gb,gc⟩,q,bit,cond⟩:Oq) n bits=false):=iQ
    clear OO
    exact cE
  ·have FF:(gk==0)=false:=by simp [OM]
   have HF:Hid (sA (⟨2,⟨gk,ga,gb,gc⟩,q,bit,cond⟩:Oq) n bits=false):=iQ
   clear OM
   exact cE
 have akb:(k==2)=false:=by simp [iG]
 by_cases NA:k=3
 ·subst NA
  by_cases OM:gk=0
  ·subst OM
   by_cases OO:ga=0
   ·subst OO
    by_cases OP:gb=0
    ·subst OP
     by_cases OS:gc=0
     ·subst OS
      by_cases Ey:bit=0
      ·subst Ey
       by_cases wM:cond=0
       ·subst wM;have HR:=hY (acw (o:=(⟨3,⟨0,0,0,0⟩,q,0,0⟩:Oq)) Ihn.u Ihb.u rfl);have HF:Hid (sA (⟨3,⟨0,0,0,0⟩,q,0,0⟩:Oq) n bits=rT q 0 (n - 1)):=by unfold Hid;rw [HR.u];simp [Gm,Gn,Oq.g3]
        by_cases hq:q<0\/n - 1<q
        ·have Hhq:=hY hq;have Ihq:=hY (zy hq);clear hq;go_wp2_with fail;refine (bI _ _ _ _ Hhq.u).mono ?_
         exact Ex
        ·have Ihq:=hY (uf (show 0<=q by omega) (show q<=n - 1 by omega));have Jhq:=hY (show 0<=q/\q<=n - 1 from ⟨aa,aa⟩);go_wp2_with fail;refine (aF _ _ _ _ Jhq.u.1 Jhq.u.2).mono ?_
         exact Ex
       ·have FF:(cond==0)=false:=by simp [wM]
        have HF:Hid (sA (⟨3,⟨0,0,0,0⟩,q,0,cond⟩:Oq) n bits=false):=gg
        clear wM
        exact cE
      ·have FF:(bit==0)=false:=by simp [Ey]
       have HF:Hid (sA (⟨3,⟨0,0,0,0⟩,q,bit,cond⟩:Oq) n bits=false):=gg
       clear Ey
       exact cE
     ·have FF:(gc==0)=false:=by simp [OS]
      have HF:Hid (sA (⟨3,⟨0,0,0,gc⟩,q,bit,cond⟩:Oq) n bits=false):=gg
      clear OS
      exact cE
    ·have FF:(gb==0)=false:=by simp [OP]
     have HF:Hid (sA (⟨3,⟨0,0,gb,gc⟩,q,bit,cond⟩:Oq) n bits=false):=gg
     clear OP
     exact cE
   ·have FF:(ga==0)=false:=by simp [OO]
    have HF:Hid (sA (⟨3,⟨0,ga,gb,gc⟩,q,bit,cond⟩:Oq) n bits=false):=gg
    clear OO
    exact cE
  ·have FF:(gk==0)=false:=by simp [OM]
   have HF:Hid (sA (⟨3,⟨gk,ga,gb,gc⟩,q,bit,cond⟩:Oq) n bits=false):=gg
   clear OM
   exact cE
 have awf:(k==3)=false:=by simp [NA]
 have HF:=hY (aj7 (o:=(⟨k,⟨gk,ga,gb,gc⟩,q,bit,cond⟩:Oq)) (n:=n) (bits:=bits) eM iG NA);clear eM iG NA
 exact cE
def Mg (gs:List Gt):List Gt:=gs.flatMap dec
theorem ahy {gs:List Gt} {k:Nat} {g:Gt} (h:gs[k]?=some g):Mg (gs.take (k+1))=Mg (gs.take k)++dec g:=by
 unfold Mg;rw [aL h,lR];simp
theorem Xq (gs:List Gt):(Mg gs).length<=15*gs.length:=by
 unfold Mg
 induction gs with
 |nil=>simp
 |cons o xs ih=>have:=mA o;rw [fK,lA,ij];omega
theorem ahz (gs:List Gt) (k:Nat):(Mg (gs.take k)).length<=15*k:=by
 have h1:=Xq (gs.take k);have h2:(gs.take k).length<=k:=qU _ _;omega
theorem akc (gs:List Gt):mH (Mg gs)<=2*gs.length:=by
 unfold Mg
 induction gs with
 |nil=>exact lI 0
 |cons o xs ih=>have:=ZR o;rw [fK,PT,ij];omega
theorem QN (x:Gr) (a b:Int):∀(f:Nat) (now:List Int),mH (wH x a b f now).1=0
 |0,now=>rfl
 |f+1,now=>by
  unfold wH;split
  ·show mH (_::(wH x a b f _).1)=0;rw [sL,QN x a b f _];rfl
  ·rfl
theorem ahA (x:Gr) (g:Gt) (p:List Int):mH (ox x g p).1<=hct g:=by
 cases hm:may g x p
 ·rw [Ek hm];exact lJ _
 ·cases h1:(ar g.k==1)
  ·rw [yr hm h1];show mH (_++[_])<=_;rw [UC,QN]
   exact lJ _
  ·rw [yq hm h1];show mH [g1 g.k _]<=_;rw [sL]
   exact lI _
def awg (w:World) (m mh:Nat) (e:Ending) (w':World):Prop:=
 ∃(v1 v2:Value) (b:Bool) (out:List Gt),e=.returned (.tuple #[v1,v2,.bool b])/\(out.length<=5*m/\mH out<=mh)/\w'.ownsRow w.heap.size 54 4 v1 out.length (ak out)/\Ext w w'
def OT (x:Gr) (o:Oq):Bool:=if (o.k==1)=true then eo x o.g else true
def BI (x:Gr) (o:Oq):List Oq:=if (o.k==1)=true then gB (iZ x o.g) o.cond else [o]
theorem akd {x:Gr} {o:Oq} (h:(o.k==1)=true):BI x o=gB (iZ x o.g) o.cond:=aX h
theorem ake {x:Gr} {o:Oq} (h:(o.k==1)=false):BI x o=[o]:=by unfold BI;rw [aK aW]
theorem afy {x:Gr} {o:Oq} (h:(o.k==1)=true):OT x o=eo x o.g:=aX h
theorem afz {x:Gr} {o:Oq} (h:(o.k==1)=false):OT x o=true:=by unfold OT;rw [aK aW]
def gO (x:Gr) (os:List Oq):Bool:=os.all (OT x)
def fM (x:Gr) (os:List Oq):List Oq:=if gO x os=true then os.flatMap (BI x) else []
theorem OU {x:Gr} {os:List Oq} {k:Nat} {o:Oq} (h:os[k]?=some o) (hg:OT x o=false):gO x os=false:=by
 unfold gO
 cases hh:os.all (OT x)
 ·rfl
 ·rw [lO] at hh;have:=hh o (lG h);rw [hg] at this
  cases this
theorem yv {x:Gr} {os:List Oq} {k:Nat} {o:Oq} (h:os[k]?=some o) (hk:gO x (os.take k)=true) (hg:OT x o=true):gO x (os.take (k+1))=true:=by
 unfold gO at*
 rw [aL h,nX,hk];simp [hg]
theorem Xr {x:Gr} {os:List Oq} (h:gO x os=false):fM x os=[]:=by unfold fM;rw [aK aW]
theorem SV {x:Gr} {os:List Oq} (h:gO x os=true):fM x os=os.flatMap (BI x):=by unfold fM;rw [aX h]
theorem Xs {x:Gr} {os:List Oq} {k:Nat} {o:Oq} (h:os[k]?=some o):(os.take (k+1)).flatMap (BI x)=(os.take k).flatMap (BI x)++BI x o:=by
 rw [aL h,lR];simp
theorem abA (x:Gr) (o:Oq):(BI x o).length<=75:=by
 unfold BI;split
 ·rw [iW];exact Dq _ _
 ·simp
theorem QO (x:Gr) (os:List Oq):(os.flatMap (BI x)).length<=75*os.length:=by
 induction os with
 |nil=>simp
 |cons o os ih=>have:=abA x o;rw [fK,lA,ij];omega
theorem ahB (x:Gr) (os:List Oq):(fM x os).length<=75*os.length:=by
 unfold fM;split
 ·exact QO x os
 ·simp
theorem nF (A:OA) (n c:Nat) (os:List Oq) (v:Value) (x:Gr) (w:World) (h:Rd w w.heap.size 8 A n (aI os)) (hv:eR w w.heap.size v x) (hn:n<=20000000000) (hm:x.es.length<=2000000000000):
  Calls prog 49 #[.slice A n c,v] w fun e w'=>∃v,e=.returned (.tuple #[v,.bool (gO x os)])/\w'.ownsRow w.heap.size 56 8 v (fM x os).length (aI (fM x os))/\Ext w w':=by
 have hlen:=hY (h.len Oq.aE aa);obtain ⟨A1,c1,rfl,h1⟩:=hv;have hG:eR w w.heap.size (.agg #[iI x.n,.slice A1 x.es.length c1]) x:=⟨A1,c1,rfl,h1⟩;clear h1;have cH:Ext w (w.alloc (cO #[iI x.n,.slice A1 x.es.length c1] 42)):=aD
 have mS:ay (w.alloc (cO #[iI x.n,.slice A1 x.es.length c1] 42)) w.heap.size 42 #[iI x.n,.slice A1 x.es.length c1]:=ay.new _ _ _;have Ft:((w.alloc (cO #[iI x.n,.slice A1 x.es.length c1] 42)).alloc (cO #[] 56)).ownsRow (w.alloc (cO #[iI x.n,.slice A1 x.es.length c1] 42)).heap.size 56 8 (.slice (some ⟨w.heap.size+1,0,none⟩) 0 0) 0 (aI []):=bL (xZ _) _ _ 8 0 #[] _ ag rfl rfl aa;have nN:=hY Ft;have ke:=hY cH;have ie:=hY mS;clear Ft cH mS;go_enter func49,ntmps49;go_wp2;have Ft:=nN.u;have cH:=ke.u;have mS:=ie.u;clear nN ke ie;have TZ:Ext (w.alloc (cO #[iI x.n,.slice A1 x.es.length c1] 42)) ((w.alloc (cO #[iI x.n,.slice A1 x.es.length c1] 42)).alloc (cO #[] 56)):=(xZ _).alloc _;generalize ((w.alloc (cO #[iI x.n,.slice A1 x.es.length c1] 42)).alloc (cO #[] 56))=Ws at*
 generalize (w.alloc (cO #[iI x.n,.slice A1 x.es.length c1] 42))=W at*
 go_loopw [6,7] (fun v i wr=>∃k:Nat,k<=n/\i=iI k/\Hid (gO x (os.take k)=true)/\wr.ownsRow W.heap.size 56 8 v ((os.take k).flatMap (BI x)).length (aI ((os.take k).flatMap (BI x)))/\Ext W wr) (fun _ i _=>n - (intOf i).toNat)
 case atStart=>exact ⟨0,lJ _,rfl,hY (by simp [gO]),Ft,TZ⟩
 case round=>
  obtain ⟨k,hk,rfl,HQ,bc,hX⟩:=hrel;have hxr:=cH.trans hX
  by_cases bh:k<n
  ·obtain ⟨b,o,y,rfl,hb,hg,r0,r1,r2,r3,r4,r5,r6,r7⟩:=re (h.ext hxr) bh;have HG:=hY hg;clear hg;have hB:=mS.ext hX;have RW:=hB.lt;have d0:=hB.ck 0;have d1:=hB.ck 1;have hf:((os.take k).flatMap (BI x)).length<=1600000000000:=by
    have z1:=QO x (os.take k);have z2:(os.take k).length<=k:=qU _ _;omega
   have SW:=Dq x y.g;have rE:(0:Int)<=(k:Int):=aa
   have jT:(k:Int)<(n:Int):=aa
   have HS:=hY (Xs (x:=x) HG.u)
   cases eM:(y.k==1)
   ·have HD:=hY (ake (x:=x) eM);have mr:=hY (yv HG.u HQ.u (afz eM));go_wp2_with (at_builtin;refine xI (w0:=W) rfl _ _ rfl _ _ ((os.take k).flatMap (BI x)) rfl bc hX y _ _ rfl rfl aa ?_;intro v1 w1 kV aS vH mS)
    go_roundw
    case rel=>exact ⟨k+1,aa,az,mr,by rw [HS.u,HD.u,lA];exact kV,aS⟩
    case measure=>simp [intOf];omega
   ·have HD:=hY (akd (x:=x) eM);have HE:=hY (afy (x:=x) eM);have HK:Hid (∀w',Ext wr w'->w'.cell? (aA b (o+k*8))=some (iI y.k)/\w'.cell? (aA b (o+k*8+1))=some (iI y.g.k)/\w'.cell? (aA b (o+k*8+2))=some (iI y.g.a)/\w'.cell? (aA b (o+k*8+3))=some (iI y.g.b)/\w'.cell? (aA b (o+k*8+4))=some (iI y.g.c)/\w'.cell? (aA b (o+k*8+5))=some (iI y.q)/\w'.cell? (aA b (o+k*8+6))=some (iI y.bit)/\w'.cell? (aA b (o+k*8+7))=some (iI y.cond)/\w'.cell? (aA w.z 0)=some (iI x.n)/\w'.cell? (aA w.z 1)=some (.slice A1 x.es.length c1)):=fun w' q=>⟨(q.cell (p:=(aA b (o+k*8))) hb).trans r0,(q.cell (p:=(aA b (o+k*8+1))) hb).trans r1,(q.cell (p:=(aA b (o+k*8+2))) hb).trans r2,(q.cell (p:=(aA b (o+k*8+3))) hb).trans r3,(q.cell (p:=(aA b (o+k*8+4))) hb).trans r4,(q.cell (p:=(aA b (o+k*8+5))) hb).trans r5,(q.cell (p:=(aA b (o+k*8+6))) hb).trans r6,(q.cell (p:=(aA b (o+k*8+7))) hb).trans r7,(hB.ext q).cell 0,(hB.ext q).cell 1⟩
    go_wp2
    go_region_held3 (fun w'=>w'.cell? (aA b (o+k*8))=some (iI y.k)/\w'.cell? (aA b (o+k*8+1))=some (iI y.g.k)/\w'.cell? (aA b (o+k*8+2))=some (iI y.g.a)/\w'.cell? (aA b (o+k*8+3))=some (iI y.g.b)/\w'.cell? (aA b (o+k*8+4))=some (iI y.g.c)/\w'.cell? (aA b (o+k*8+5))=some (iI y.q)/\w'.cell? (aA b (o+k*8+6))=some (iI y.bit)/\w'.cell? (aA b (o+k*8+7))=some (iI y.cond)/\w'.cell? (aA w.z 0)=some (iI x.n)/\w'.cell? (aA w.z 1)=some (.slice A1 x.es.length c1))
     (first|go_keep|exact HK.u _ aQ)
     (first
      |(go_at_call 71;refine (uq _ x y.g _ ((hG.up hxr.drew (lI _)).more hxr.drew.size) hm).mono ?_;rintro e w1 ⟨v1,rfl,nQ,ki⟩;replace ki:Ext wr w1:=Ext.trans (xZ wr).drew ki))
    have e7:w1.cell? (aA b (o+k*8+7))=some (iI y.cond):=(ki.cell (p:=(aA b (o+k*8+7))) hb).trans r7;obtain ⟨A1',Si,rfl,pD⟩:=au nQ;have BG:=hX.trans ki;have eF:=aq bc ki;clear r0 r1 r2 r3 r4 r5 r6 r7 d0 d1 nQ
    cases qz:eo x y.g
    ·have HO:=hY (OU HG.u (HE.u.trans qz));have HL:=hY (Xr HO.u);go_wp2;go_ret2;refine ⟨_,iR,?_,(cH.trans BG).alloc _⟩;rw [HL.u]
     exact bL (cH.trans BG) _ _ 8 0 #[] _ rfl rfl rfl aa
    ·have mr:=hY (yv HG.u HQ.u (HE.u.trans qz));have HL:=hY (iW (iZ x y.g) y.cond)
     go_wp2_with (first
      |(go_at_call 34;refine (kq A1' _ Si (iZ x y.g) y.cond _ pD aa).mono ?_;rintro e w2 ⟨v2,rfl,ep,si⟩;have Qb:=BG.trans si;obtain ⟨A2,c2,rfl,mg⟩:=au ep)
      |(at_builtin;refine NG (w0:=W) rfl _ _ rfl _ _ ((os.take k).flatMap (BI x)) rfl (aq eF si) Qb A2 _ c2 (gB (iZ x y.g) y.cond) rfl mg iU ?_;intro v3 w3 jm ZE Bl Gy))
     go_roundw
     case rel=>exact ⟨k+1,aa,az,mr,by rw [HS.u,HD.u,lA];exact jm,ZE⟩
     case measure=>simp [intOf];omega
  ·rw [lE bN] at bc HQ;have HL:=hY (SV HQ.u);go_wp2;go_ret2;refine ⟨_,by rw [HQ.u];rfl,?_,hxr⟩;rw [HL.u]
   exact aC bc cH.size
end Go.Proofs.YtiajdbllccmokaaGreatDoor
